/-
 Walks of functions of layer 4: each call comes to what the model says. Printed by a program of ours.
-/
import Derived.Test.YtelimceikglofaaGreatDoorWalkA
set_option linter.all false
set_option maxHeartbeats 4000000
namespace T4
open Go Go.Proofs Pk
theorem w29 {M : Prop} {W : World} {H : Hp} (hH : H.le (hp W)) (hg : Gv M H) {cs_l_0 : List Value} (l_0 : Lexicon) (h_l_0 : (RLexicon) H cs_l_0 l_0) {ad_swaps : Option Addr} {cap_swaps : Nat} {swaps : List Swap} (h_swaps : Sl (Flat encSwap) 3 H ad_swaps cap_swaps swaps) {cs_r_2 : List Value} (r_2 : Report) (h_r_2 : (RReport) H cs_r_2 r_2) {ad_requests : Option Addr} {cap_requests : Nat} {requests : List Request} (h_requests : Sl (RRequest) 5 H ad_requests cap_requests requests) {r : List Int × Int} (hr : m29 l_0 swaps r_2 requests = some r) : Calls Tryz.prog 29 [.agg cs_l_0.toArray, .slice ad_swaps swaps.length cap_swaps, .agg cs_r_2.toArray, .slice ad_requests requests.length cap_requests].toArray W (RetK M H W (fun v K => ∃ (ad0 : Option Addr) (cap0 : Nat), v = .tuple [.slice ad0 r.1.length cap0, .int .i64 r.2].toArray ∧ Sl (Flat (encI .i64)) 1 K ad0 cap0 r.1)) := by
 have hh_l_0 := h_l_0
 obtain ⟨ad1, cap2, ad4, cap5, ad7, cap8, rfl, hl3, hl6, hl9⟩ := h_l_0
 have := hl3.len
 have := hl6.len
 have := hl9.len
 have := h_swaps.len
 have hh_r_2 := h_r_2
 obtain ⟨ad10, cap11, rfl, hl12⟩ := h_r_2
 have := hl12.len
 have := h_requests.len
 unfold m29 at hr
 refine enterG (M := M) Tryz.func29 rfl Tryz.ntmps29 rfl hH ?_
 refine sq (rg (bI (cs := [.slice ad1 l_0.numbers.length cap2, .slice ad4 l_0.names.length cap5, .slice ad7 l_0.nots.length cap8]) rfl rfl rfl fun q13 K14 hK15 => (bI (cs := [.slice ad10 r_2.words.length cap11, .int .i64 r_2.out, .int .i64 r_2.within]) rfl rfl rfl fun q16 K17 hK18 => (a1 rfl (a1 rfl (on (sq (rg (ldA G36 Z36 rfl rfl (sS 1 rfl hK15) rfl (m1 rfl (ldA G56 Z56 rfl rfl (sS 0 rfl hK18) rfl ?_)))))))))))
 refine m1 rfl ?_
 obtain ⟨t1082, hx1083, hr1084⟩ := bd_some hr
 refine clI C59 Tryz.func59 rfl Tryz.ntmps59 rfl rfl rfl rfl (fun v w => (∃ (t1085 : Int), t1082 = (.inl t1085) ∧ v = .tuple [.pointer none, .int .i64 t1085].toArray ∧ St M W H [K17, K14, H] [] w) ∨ (∃ (t1086 : List Int × List Request × List Said × (List (Bytes × Mark)) × List Swap × List Int), t1082 = (.inr t1086) ∧ ∃ (b1087 : Nat) (ad1088 : Option Addr) (cap1089 : Nat) (ad1090 : Option Addr) (cap1091 : Nat) (css1092 : List (List Value)) (K1093 : Hp) (ad1095 : Option Addr) (cap1096 : Nat) (K1097 : Hp) (mp1099 : Value) (K1100 : Hp) (ad1102 : Option Addr) (cap1103 : Nat) (K1104 : Hp) (ad1106 : Option Addr) (cap1107 : Nat), v = .tuple [.pointer (some (⟨b1087, 0, none⟩)), .int .i64 0].toArray ∧ St M W H [K1093, K1097, K1100, K1104, K17, K14, H] [(8, Own.list ad1088 cap1089 3 1 (encI .i64) t1086.1), (7, Own.rows ad1090 cap1091 63 5 css1092 t1086.2.1), (2, cel b1087 133 [.slice ad1095 t1086.2.2.1.length cap1096, .int .i64 r_2.out, .int .i64 r_2.within, mp1099, .slice ad1102 t1086.2.2.2.2.1.length cap1103, .slice ad1090 t1086.2.1.length cap1091, .slice ad1088 t1086.1.length cap1089, .slice ad1106 t1086.2.2.2.2.2.length cap1107]), (1, Own.list ad1106 cap1107 31 1 (encI .i64) t1086.2.2.2.2.2)] w ∧ Rows (RRequest) 5 K1093 css1092 t1086.2.1 ∧ Sl (Flat encSaid) 2 K1097 ad1095 cap1096 t1086.2.2.1 ∧ Mp keS (fun x => Value.agg (encMark x).toArray) K1100 mp1099 t1086.2.2.2.1 ∧ Sl (Flat encSwap) 3 K1104 ad1102 cap1103 t1086.2.2.2.2.1)) ?_ ?_
 ·refine sq (rg (bI (cs := [.slice ad1 l_0.numbers.length cap2, .slice ad4 l_0.names.length cap5, .slice ad7 l_0.nots.length cap8]) rfl rfl rfl fun q1108 K1109 hK1110 => (bI (cs := [.slice ad10 r_2.words.length cap11, .int .i64 r_2.out, .int .i64 r_2.within]) rfl rfl rfl fun q1111 K1112 hK1113 => (bI (cs := [.slice ad_requests requests.length cap_requests]) rfl rfl rfl fun q1114 K1115 hK1116 => (a1 rfl (a1 rfl (on (sq (rg (ldA G36 Z36 rfl rfl (sS 2 rfl hK1110) rfl (m1 rfl ?_)))))))))))
  obtain ⟨r1117, hx1118, hr1119⟩ := bd_some hx1083
  refine clK C51 rfl rfl rfl rfl (fun w H hH le => w51 hH l_0 (RLexicon.mono _ _ _ _ (le.at 5 rfl) hh_l_0) (h_swaps.mono (Flat.mono _) (le.at 5 rfl)) hx1118) ?_
  rintro v_ K1120 ⟨cs1121, rfl, hr1122⟩
  have hr1123 := hr1122
  obtain ⟨mp1124, ad1126, cap1127, rfl, hm1125, hl1128⟩ := hr1122
  have := hl1128.len
  refine m1 rfl (ex rfl rfl rfl (ex rfl rfl rfl ?_))
  obtain ⟨b1129, rfl⟩ := Mp.isMap hm1125
  refine va (cs := [.map b1129, .slice ad1126 r1117.1.swaps.length cap1127]) Tryz.zeroValue117 Z117 rfl rfl rfl rfl rfl rfl rfl rfl fun q1130 K1131 hK1132 => (a1 rfl (on (sq (sq (rg (m1 rfl (neI rfl rfl rfl (on ?_))))))))
  refine ci rfl (fun hc1136 => ?_) (fun hc1136 => ?_)
  ·have hr1137 := if_p hc1136 hr1119
   refine sq (rg (m1 rfl (a1 rfl (a1 rfl (on (rt_ ?_))))))
   cases hr1137
   intro a w hS hA
   refine ret2 hA rfl rfl rfl ?_
   exact ⟨_, rfl, .inl ⟨_, rfl, rfl, hS.selH [5, 6, 7] rfl⟩⟩
  ·have hr1138 := if_n hc1136 hr1119
   refine sk (sq (sq (rg (ldA G56 Z56 rfl rfl (sS 3 rfl hK1113) rfl ?_))))
   obtain ⟨r1139, hx1140, hr1141⟩ := bd_some hr1138
   refine clS C61 rfl rfl rfl rfl (fun w H hH le => w61 hH r_2 (RReport.mono _ _ _ _ (le.at 7 rfl) hh_r_2) hx1140) (a1 rfl (on (sq (rg (m1 rfl (neI rfl rfl rfl (on ?_)))))))
   refine ci rfl (fun hc1145 => ?_) (fun hc1145 => ?_)
   ·have hr1146 := if_p hc1145 hr1141
    refine sq (rg (m1 rfl (a1 rfl (a1 rfl (on (rt_ ?_))))))
    cases hr1146
    intro a w hS hA
    refine ret2 hA rfl rfl rfl ?_
    exact ⟨_, rfl, .inl ⟨_, rfl, rfl, hS.selH [5, 6, 7] rfl⟩⟩
   ·have hr1147 := if_n hc1145 hr1141
    refine sk (sq (sq (rg (ld G64 rfl rfl (sS 2 rfl hK1116) rfl (lnL U64 rfl rfl (gtI rfl rfl rfl (on ?_)))))))
    refine ci rfl (fun hc1151 => ?_) (fun hc1151 => ?_)
    ·have hr1152 := if_p hc1151 hr1147
     refine sq (rg (a1 rfl (a1 rfl (on (rt_ ?_)))))
     cases hr1152
     intro a w hS hA
     refine ret2 hA rfl rfl rfl ?_
     exact ⟨_, rfl, .inl ⟨_, rfl, rfl, hS.selH [5, 6, 7] rfl⟩⟩
    ·have hr1153 := if_n hc1151 hr1147
     refine sk (sq ?_)
     obtain ⟨hk1154, hr1155⟩ := chk_some hr1153
     have : (List.replicate requests.length (0 : Int)).length = requests.length := List.length_replicate
     refine drG2 5 4 mixed (by kernel_rfl) rfl rfl (DG.detA rfl rfl rfl (fun τ a w K hS hA hF => TG.pa hS hA (ldA G56 Z56 rfl rfl (sS 4 rfl hK1113) rfl fin1)) (DG.detA rfl rfl rfl (fun τ a w K hS hA hF => TG.pa hS hA (ldA G117 Z117 rfl rfl (sS 1 rfl hK1132) rfl fin1)) (DG.det (fun τ => τ = []) rfl rfl (.inr (by kernel_rfl)) (fun _ h => by cases h) rfl rfl (fun τ hτ a w K hS hA hF => by subst hτ <;> exact TG.pa hS hA (ld G64 rfl rfl (sS 3 rfl hK1116) rfl fin1)) (DG.det (fun τ => τ = []) rfl rfl (.inr (by kernel_rfl)) (fun _ h => by cases h) rfl rfl (fun τ hτ a w K hS hA hF => by subst hτ <;> exact TG.pa hS hA (lnL U64 rfl rfl fin1)) (DG.turn (α := Nat) 0 (fun b1156 => .slice (some ⟨b1156, 0, none⟩) ((List.replicate requests.length (0 : Int)).length) requests.length) (fun _ _ => True) (fun b1156 => [(1, Own.list (some ⟨b1156, 0, none⟩) requests.length 31 1 (encI .i64) (List.replicate requests.length (0 : Int)))]) rfl (fun _ _ _ _ h => h) (by kernel_rfl) rfl rfl (fun a w K hS hA hF => TG.pa hS hA (mkL 1 (encI .i64) (0 : Int) T4.E59 rfl rfl rfl rfl rfl rfl rfl hk1154 fun b1156 => finT (f := fun b1156 => .slice (some ⟨b1156, 0, none⟩) ((List.replicate requests.length (0 : Int)).length) requests.length) (G := fun _ _ => True) (σ1 := fun b1156 => [(1, Own.list (some ⟨b1156, 0, none⟩) requests.length 31 1 (encI .i64) (List.replicate requests.length (0 : Int)))]) b1156 tv)) fun b1156 => (DG.nil fun K1157 hF => ?_))))))
     obtain ⟨_, _⟩ := hF
     refine bu (cs := [.slice ad10 r_2.words.length cap11, .int .i64 r_2.out, .int .i64 r_2.within, .map b1129, .slice ad1126 r1117.1.swaps.length cap1127, .slice none 0 0, .slice none 0 0, .slice (some ⟨b1156, 0, none⟩) ((List.replicate requests.length (0 : Int)).length) requests.length]) T4.B133 rfl rfl rfl (bO 2 rfl rfl rfl fun b1158 => (a1 rfl (on (sq (rg (a1 rfl (on (sq (sq (rg (ld G64 rfl rfl (sS 3 rfl hK1116) rfl ?_)))))))))))
     refine lnL U64 rfl rfl (m1 rfl (on (TG.nilRow 4 3 1 (TG.as 4 (z := Own.list none 0 3 1 (encI .i64) ([] : List Int)) rfl rfl ?_))))
     obtain ⟨e1192, hl1193, hr1194⟩ := bd_some hr1155
     refine jn (fun a w => ∃ (ad1195 : Option Addr) (cap1196 : Nat), St M W H [K1157, K1131, K1120, K1115, K1112, K1109, K17, K14, H] [(4, Own.list ad1195 cap1196 3 1 (encI .i64) e1192), (2, cel b1158 133 [.slice ad10 r_2.words.length cap11, .int .i64 r_2.out, .int .i64 r_2.within, .map b1129, .slice ad1126 r1117.1.swaps.length cap1127, .slice none 0 0, .slice none 0 0, .slice (some ⟨b1156, 0, none⟩) ((List.replicate requests.length (0 : Int)).length) requests.length]), (1, Own.list (some ⟨b1156, 0, none⟩) requests.length 31 1 (encI .i64) (List.replicate requests.length (0 : Int)))] w ∧ Has [] 106 a [(7, .pointer (some q1114)), (13, .pointer (some (⟨b1158, 0, none⟩))), (14, .slice ad1195 e1192.length cap1196)]) ?_ ?_
     ·refine bk ?_
      refine lp hl1193 (fun s1197 a w => ∃ (ad1198 : Option Addr) (cap1199 : Nat), St M W H [K1157, K1131, K1120, K1115, K1112, K1109, K17, K14, H] [(4, Own.list ad1198 cap1199 3 1 (encI .i64) s1197.2), (2, cel b1158 133 [.slice ad10 r_2.words.length cap11, .int .i64 r_2.out, .int .i64 r_2.within, .map b1129, .slice ad1126 r1117.1.swaps.length cap1127, .slice none 0 0, .slice none 0 0, .slice (some ⟨b1156, 0, none⟩) ((List.replicate requests.length (0 : Int)).length) requests.length]), (1, Own.list (some ⟨b1156, 0, none⟩) requests.length 31 1 (encI .i64) (List.replicate requests.length (0 : Int)))] w ∧ Has [] 106 a [(7, .pointer (some q1114)), (13, .pointer (some (⟨b1158, 0, none⟩))), (14, .slice ad1198 s1197.2.length cap1199), (43, .int .i64 (requests.length : Int)), (44, .int .i64 (s1197.1 : Int))]) ?_ ?_
      ·intro a w hS hA
       exact ⟨none, 0, hS, hA.cut ⟨rfl, rfl, rfl, rfl, rfl, tv⟩⟩
      ·rintro j s1197 y1202 hr1200 hz1201 a w ⟨ad1198, cap1199, hS, hA⟩
       refine TG.ap ?_ hS hA
       unfold m29_1 at hr1200
       refine sq (rg (ltI rfl rfl rfl (on (sq ?_))))
       refine ci rfl (fun hc1206 => ?_) (fun hc1206 => ?_)
       ·have hr1207 := if_p hc1206 hr1200
        refine sk (sq (bk (sq (rg (m1 rfl (a1 rfl (on (rg (m1 rfl (m1 rfl ?_))))))))))
        obtain ⟨hk1213, hr1214⟩ := chk_some hr1207
        have := lenA s1197.2 [(s1197.1 : Int)]
        refine ap1 4 (encI .i64) (l := s1197.2) (s1197.1 : Int) T4.E86 rfl rfl rfl rfl rfl rfl rfl rfl rfl rfl rfl rfl hk1213 fun ad1215 cap1216 u1217 => (a1 rfl (on (rg (adI rfl rfl rfl (by omega) (m1 rfl (on ?_))))))
        cases hr1214
        intro a w hS hA
        exact ⟨_, hz1201, ad1215, cap1216, hS, hA.cut ⟨rfl, rfl, rfl, rfl, rfl, tv⟩⟩
       ·have hr1218 := if_n hc1206 hr1200
        refine xt rfl ?_
        cases hr1218
        obtain rfl := Fin.out hz1201
        intro a w hS hA
        exact ⟨ad1198, cap1199, hS, hA.cut ⟨rfl, rfl, rfl, tv⟩⟩
     ·rintro a w ⟨ad1195, cap1196, hS, hA⟩
      refine TG.ap ?_ hS hA
      refine sq (rg (m1 rfl (fn rfl rfl rfl ?_)))
      obtain ⟨t1886, hx1887, hr1888⟩ := bd_some hr1194
      refine clI C87 Tryz.func87 rfl Tryz.ntmps87 rfl rfl rfl rfl (fun v w => (v = .tuple #[] ∧ St M W H [K1157, K1131, K1120, K1115, K1112, K1109, K17, K14, H] [(4, Own.list ad1195 cap1196 3 1 (encI .i64) t1886), (2, cel b1158 133 [.slice ad10 r_2.words.length cap11, .int .i64 r_2.out, .int .i64 r_2.within, .map b1129, .slice ad1126 r1117.1.swaps.length cap1127, .slice none 0 0, .slice none 0 0, .slice (some ⟨b1156, 0, none⟩) ((List.replicate requests.length (0 : Int)).length) requests.length]), (1, Own.list (some ⟨b1156, 0, none⟩) requests.length 31 1 (encI .i64) (List.replicate requests.length (0 : Int)))] w ∧ t1886.length = e1192.length)) ?_ ?_
      ·refine rg (m1 rfl (m1 rfl (TG.len 4 rfl fun _ => (lnL U86 rfl rfl (m1 rfl ?_)))))
       obtain ⟨t2553, hx2554, hr2555⟩ := bd_some hx1887
       refine clI C112 Tryz.func112 rfl Tryz.ntmps112 rfl rfl rfl rfl (fun v w => (v = .tuple #[] ∧ St M W H [K1157, K1131, K1120, K1115, K1112, K1109, K17, K14, H] [(4, Own.list ad1195 cap1196 3 1 (encI .i64) t2553), (2, cel b1158 133 [.slice ad10 r_2.words.length cap11, .int .i64 r_2.out, .int .i64 r_2.within, .map b1129, .slice ad1126 r1117.1.swaps.length cap1127, .slice none 0 0, .slice none 0 0, .slice (some ⟨b1156, 0, none⟩) ((List.replicate requests.length (0 : Int)).length) requests.length]), (1, Own.list (some ⟨b1156, 0, none⟩) requests.length 31 1 (encI .i64) (List.replicate requests.length (0 : Int)))] w ∧ t2553.length = e1192.length)) ?_ ?_
       ·refine sq (rg (a1 rfl (on (sq (rg (m1 rfl (a1 rfl (a1 rfl (on (sq ?_))))))))))
        obtain ⟨e2991, hl2992, hr2993⟩ := bd_some hx2554
        refine jn (fun a w => St M W H [K1157, K1131, K1120, K1115, K1112, K1109, K17, K14, H] [(4, Own.list ad1195 cap1196 3 1 (encI .i64) e2991.2), (2, cel b1158 133 [.slice ad10 r_2.words.length cap11, .int .i64 r_2.out, .int .i64 r_2.within, .map b1129, .slice ad1126 r1117.1.swaps.length cap1127, .slice none 0 0, .slice none 0 0, .slice (some ⟨b1156, 0, none⟩) ((List.replicate requests.length (0 : Int)).length) requests.length]), (1, Own.list (some ⟨b1156, 0, none⟩) requests.length 31 1 (encI .i64) (List.replicate requests.length (0 : Int)))] w ∧ Has [] 63 a [(0, .slice ad1195 e1192.length cap1196), (1, .int .i64 (e1192.length : Int)), (2, .func (.func 88) [].toArray [.pointer (some q1114)].toArray), (6, .int .i64 20), (7, .int .i64 (e2991.1 : Int))] ∧ e2991.2.length = e1192.length) ?_ ?_
        ·refine bk ?_
         refine lp hl2992 (fun s2995 a w => St M W H [K1157, K1131, K1120, K1115, K1112, K1109, K17, K14, H] [(4, Own.list ad1195 cap1196 3 1 (encI .i64) s2995.2.2), (2, cel b1158 133 [.slice ad10 r_2.words.length cap11, .int .i64 r_2.out, .int .i64 r_2.within, .map b1129, .slice ad1126 r1117.1.swaps.length cap1127, .slice none 0 0, .slice none 0 0, .slice (some ⟨b1156, 0, none⟩) ((List.replicate requests.length (0 : Int)).length) requests.length]), (1, Own.list (some ⟨b1156, 0, none⟩) requests.length 31 1 (encI .i64) (List.replicate requests.length (0 : Int)))] w ∧ Has [] 63 a [(0, .slice ad1195 e1192.length cap1196), (1, .int .i64 (e1192.length : Int)), (2, .func (.func 88) [].toArray [.pointer (some q1114)].toArray), (6, .int .i64 20), (7, .int .i64 (s2995.1 : Int)), (8, .int .i64 (s2995.2.1 : Int))] ∧ s2995.2.2.length = e1192.length) ?_ ?_
         ·intro a w hS hA
          exact ⟨hS, hA.cut ⟨rfl, rfl, rfl, rfl, rfl, rfl, tv⟩, rfl⟩
         ·rintro j s2995 y2999 hr2997 hz2998 a w ⟨hS, hA, hln2996⟩
          refine TG.ap ?_ hS hA
          unfold m29_2 at hr2997
          refine sq (sq (rg (m1 rfl (m1 rfl (leI rfl rfl rfl (on ?_))))))
          refine ci rfl (fun hc3003 => ?_) (fun hc3003 => ?_)
          ·have hr3004 := if_p hc3003 hr2997
           refine sk (bk (sq (rg (m1 rfl (m1 rfl (m1 rfl (m1 rfl ?_)))))))
           obtain ⟨t3423, hx3424, hr3425⟩ := bd_some hr3004
           refine clI C122 Tryz.func122 rfl Tryz.ntmps122 rfl rfl rfl rfl (fun v w => (v = .tuple #[] ∧ St M W H [K1157, K1131, K1120, K1115, K1112, K1109, K17, K14, H] [(4, Own.list ad1195 cap1196 3 1 (encI .i64) t3423), (2, cel b1158 133 [.slice ad10 r_2.words.length cap11, .int .i64 r_2.out, .int .i64 r_2.within, .map b1129, .slice ad1126 r1117.1.swaps.length cap1127, .slice none 0 0, .slice none 0 0, .slice (some ⟨b1156, 0, none⟩) ((List.replicate requests.length (0 : Int)).length) requests.length]), (1, Own.list (some ⟨b1156, 0, none⟩) requests.length 31 1 (encI .i64) (List.replicate requests.length (0 : Int)))] w ∧ t3423.length = e1192.length)) ?_ ?_
           ·refine sq (rg (m1 rfl ?_))
            obtain ⟨hk3427, hr3428⟩ := chk_some hx3424
            refine adI rfl rfl rfl hk3427 (a1 rfl (on ?_))
            obtain ⟨e3631, hl3632, hr3633⟩ := bd_some hr3428
            refine jn (fun a w => St M W H [K1157, K1131, K1120, K1115, K1112, K1109, K17, K14, H] [(4, Own.list ad1195 cap1196 3 1 (encI .i64) e3631), (2, cel b1158 133 [.slice ad10 r_2.words.length cap11, .int .i64 r_2.out, .int .i64 r_2.within, .map b1129, .slice ad1126 r1117.1.swaps.length cap1127, .slice none 0 0, .slice none 0 0, .slice (some ⟨b1156, 0, none⟩) ((List.replicate requests.length (0 : Int)).length) requests.length]), (1, Own.list (some ⟨b1156, 0, none⟩) requests.length 31 1 (encI .i64) (List.replicate requests.length (0 : Int)))] w ∧ Has [] 53 a [] ∧ e3631.length = e1192.length) ?_ ?_
            ·refine bk ?_
             refine lp hl3632 (fun s3635 a w => St M W H [K1157, K1131, K1120, K1115, K1112, K1109, K17, K14, H] [(4, Own.list ad1195 cap1196 3 1 (encI .i64) s3635.2), (2, cel b1158 133 [.slice ad10 r_2.words.length cap11, .int .i64 r_2.out, .int .i64 r_2.within, .map b1129, .slice ad1126 r1117.1.swaps.length cap1127, .slice none 0 0, .slice none 0 0, .slice (some ⟨b1156, 0, none⟩) ((List.replicate requests.length (0 : Int)).length) requests.length]), (1, Own.list (some ⟨b1156, 0, none⟩) requests.length 31 1 (encI .i64) (List.replicate requests.length (0 : Int)))] w ∧ Has [] 53 a [(0, .slice ad1195 e1192.length cap1196), (1, .int .i64 (s2995.1 : Int)), (2, .int .i64 (s2995.2.1 : Int)), (3, .func (.func 88) [].toArray [.pointer (some q1114)].toArray), (8, .int .i64 (s3635.1 : Int))] ∧ s3635.2.length = e1192.length) ?_ ?_
             ·intro a w hS hA
              exact ⟨hS, hA.cut ⟨rfl, rfl, rfl, rfl, rfl, tv⟩, hln2996⟩
             ·rintro j s3635 y3639 hr3637 hz3638 a w ⟨hS, hA, hln3636⟩
              refine TG.ap ?_ hS hA
              unfold m29_3 at hr3637
              refine sq (sq (rg (m1 rfl (m1 rfl (ltI rfl rfl rfl (on ?_))))))
              refine ci rfl (fun hc3643 => ?_) (fun hc3643 => ?_)
              ·have hr3644 := if_p hc3643 hr3637
               refine sk (sq (bk (sq (rg (m1 rfl (a1 rfl (on ?_)))))))
               obtain ⟨e3831, hl3832, hr3833⟩ := bd_some hr3644
               refine jn (fun a w => St M W H [K1157, K1131, K1120, K1115, K1112, K1109, K17, K14, H] [(4, Own.list ad1195 cap1196 3 1 (encI .i64) e3831), (2, cel b1158 133 [.slice ad10 r_2.words.length cap11, .int .i64 r_2.out, .int .i64 r_2.within, .map b1129, .slice ad1126 r1117.1.swaps.length cap1127, .slice none 0 0, .slice none 0 0, .slice (some ⟨b1156, 0, none⟩) ((List.replicate requests.length (0 : Int)).length) requests.length]), (1, Own.list (some ⟨b1156, 0, none⟩) requests.length 31 1 (encI .i64) (List.replicate requests.length (0 : Int)))] w ∧ Has [] 53 a [(0, .slice ad1195 e1192.length cap1196), (1, .int .i64 (s2995.1 : Int)), (2, .int .i64 (s2995.2.1 : Int)), (3, .func (.func 88) [].toArray [.pointer (some q1114)].toArray), (8, .int .i64 (s3635.1 : Int))] ∧ e3831.length = e1192.length) ?_ ?_
               ·refine bk ?_
                refine lp hl3832 (fun s3835 a w => St M W H [K1157, K1131, K1120, K1115, K1112, K1109, K17, K14, H] [(4, Own.list ad1195 cap1196 3 1 (encI .i64) s3835.2), (2, cel b1158 133 [.slice ad10 r_2.words.length cap11, .int .i64 r_2.out, .int .i64 r_2.within, .map b1129, .slice ad1126 r1117.1.swaps.length cap1127, .slice none 0 0, .slice none 0 0, .slice (some ⟨b1156, 0, none⟩) ((List.replicate requests.length (0 : Int)).length) requests.length]), (1, Own.list (some ⟨b1156, 0, none⟩) requests.length 31 1 (encI .i64) (List.replicate requests.length (0 : Int)))] w ∧ Has [] 53 a [(0, .slice ad1195 e1192.length cap1196), (1, .int .i64 (s2995.1 : Int)), (2, .int .i64 (s2995.2.1 : Int)), (3, .func (.func 88) [].toArray [.pointer (some q1114)].toArray), (8, .int .i64 (s3635.1 : Int)), (9, .int .i64 s3835.1)] ∧ s3835.2.length = e1192.length) ?_ ?_
                ·intro a w hS hA
                 exact ⟨hS, hA.cut ⟨rfl, rfl, rfl, rfl, rfl, rfl, tv⟩, hln3636⟩
                ·rintro j s3835 y3839 hr3837 hz3838 a w ⟨hS, hA, hln3836⟩
                 refine TG.ap ?_ hS hA
                 unfold m29_4 at hr3837
                 refine sq (sq ?_)
                 obtain ⟨t3861, hx3862, hr3863⟩ := bd_some hr3837
                 refine jn (fun a w => St M W H [K1157, K1131, K1120, K1115, K1112, K1109, K17, K14, H] [(4, Own.list ad1195 cap1196 3 1 (encI .i64) s3835.2), (2, cel b1158 133 [.slice ad10 r_2.words.length cap11, .int .i64 r_2.out, .int .i64 r_2.within, .map b1129, .slice ad1126 r1117.1.swaps.length cap1127, .slice none 0 0, .slice none 0 0, .slice (some ⟨b1156, 0, none⟩) ((List.replicate requests.length (0 : Int)).length) requests.length]), (1, Own.list (some ⟨b1156, 0, none⟩) requests.length 31 1 (encI .i64) (List.replicate requests.length (0 : Int)))] w ∧ Has [] 53 a [(0, .slice ad1195 e1192.length cap1196), (1, .int .i64 (s2995.1 : Int)), (2, .int .i64 (s2995.2.1 : Int)), (3, .func (.func 88) [].toArray [.pointer (some q1114)].toArray), (8, .int .i64 (s3635.1 : Int)), (9, .int .i64 s3835.1), (34, .bool t3861)]) ?_ ?_
                 ·by_cases hb3864 : (s2995.1 : Int) < s3835.1
                  ·have hr3865 := if_p hb3864 hx3862
                   obtain ⟨hk3866, hr3867⟩ := chk_some hr3865
                   obtain ⟨x3868, hx3869, hr3870⟩ := bd_some hr3867
                   refine TG.addr 4 rfl (lt_of0 hx3869) fun b3871 h => ?_; subst h
                   obtain ⟨hk3872, hr3873⟩ := chk_some hr3870
                   obtain ⟨hk3874, hr3875⟩ := chk_some hr3873
                   obtain ⟨x3876, hx3877, hr3878⟩ := bd_some hr3875
                   refine drG 14 mixed (by kernel_rfl) rfl (dt rfl (m1 rfl fin1) (dt rfl (m1 rfl fin1) (dt rfl (gtI rfl rfl rfl fin1) (dt rfl (m1 rfl fin1) (dt rfl (gt hb3864 rfl (m1 rfl fin1)) (dt rfl (gt hb3864 rfl (m1 rfl fin1)) (dt rfl (gt hb3864 rfl (m1 rfl fin1)) (dt rfl (gt hb3864 rfl (iaP U86 Z3 rfl rfl rfl (by omega) (Nat.lt_of_lt_of_eq (lt_of hx3869) hln3836) fin1)) (dt rfl (gt hb3864 rfl (ld G3 rfl rfl (sE 4 rfl (fun _ => rfl) hx3869) rfl fin1)) (dt rfl (gt hb3864 rfl (m1 rfl fin1)) (dt rfl (gt hb3864 rfl (m1 rfl fin1)) ?_)))))))))))
                   refine dt rfl (gt hb3864 rfl (sbI rfl rfl rfl hk3872 fin1)) (dt rfl (gt hb3864 rfl (iaP U86 Z3 rfl rfl rfl (by omega) (Nat.lt_of_lt_of_eq (lt_of hx3877) hln3836) fin1)) (dt rfl (gt hb3864 rfl (ld G3 rfl rfl (sE 4 rfl (fun _ => rfl) hx3877) rfl fin1)) (DF.nil fun K3879 hF => (gt hb3864 rfl ?_))))
                   obtain ⟨r3880, hx3881, hr3882⟩ := bd_some hr3878
                   refine clS C88 rfl rfl rfl rfl (fun w H hH le => w88 hH x3868 x3876 (f0_ := requests) (hK1116.mono (le.at 4 rfl)) (h_requests.mono (RRequest.mono) (le.at 9 rfl)) hx3881) (gt hb3864 rfl (ltI rfl rfl rfl (pt hb3864 rfl rfl (on ?_))))
                   cases hr3882
                   intro a w hS hA
                   exact ⟨hS.selH [1, 2, 3, 4, 5, 6, 7, 8, 9] rfl, hA.cut ⟨rfl, rfl, rfl, rfl, rfl, rfl, rfl, tv⟩⟩
                  ·have hr3883 := if_n hb3864 hx3862
                   refine drG 14 mixed (by kernel_rfl) rfl (dt rfl (m1 rfl fin1) (dt rfl (m1 rfl fin1) (dt rfl (gtI rfl rfl rfl fin1) (dt rfl (m1 rfl fin1) (dt rfl (gf hb3864 rfl fin1) (dt rfl (gf hb3864 rfl fin1) (dt rfl (gf hb3864 rfl fin1) (dt rfl (gf hb3864 rfl fin1) (dt rfl (gf hb3864 rfl fin1) (dt rfl (gf hb3864 rfl fin1) (dt rfl (gf hb3864 rfl fin1) ?_)))))))))))
                   refine dt rfl (gf hb3864 rfl fin1) (dt rfl (gf hb3864 rfl fin1) (dt rfl (gf hb3864 rfl fin1) (DF.nil fun K3884 hF => (gf hb3864 rfl (gf hb3864 rfl (pf hb3864 rfl rfl (on ?_)))))))
                   cases hr3883
                   intro a w hS hA
                   exact ⟨hS.selH [1, 2, 3, 4, 5, 6, 7, 8, 9] rfl, hA.cut ⟨rfl, rfl, rfl, rfl, rfl, rfl, rfl, tv⟩⟩
                 ·rintro a w ⟨hS, hA⟩
                  refine TG.ap ?_ hS hA
                  refine cb rfl (fun hc3888 => ?_) (fun hc3888 => ?_)
                  ·have hr3889 := if_p hc3888 hr3863
                   refine sk (sq (bk ?_))
                   obtain ⟨hk3909, hr3910⟩ := chk_some hr3889
                   obtain ⟨hk3911, hr3912⟩ := chk_some hr3910
                   obtain ⟨x3913, hx3914, hr3915⟩ := bd_some hr3912
                   refine TG.addr 4 rfl (lt_of0 hx3914) fun b3916 h => ?_; subst h
                   obtain ⟨hk3917, hr3918⟩ := chk_some hr3915
                   obtain ⟨x3919, hx3920, hr3921⟩ := bd_some hr3918
                   refine drG3 14 [] [(2, 39, .slice (some ⟨b3916, 0, none⟩) e1192.length cap1196), (3, 40, .int .i64 s3835.1), (4, 41, .int .i64 (s3835.1 - 1))] mixed (fun _ _ _ _ _ h => h) (by kernel_rfl) (by kernel_rfl) (by kernel_rfl) rfl (by kernel_rfl) (.cons rfl rfl rfl (fun _ => rfl) (by kernel_rfl) (by kernel_rfl) (fun _ _ => rfl) (mvY rfl) (.cons rfl rfl rfl (fun _ => rfl) (by kernel_rfl) (by kernel_rfl) (fun _ _ => rfl) (mvY rfl) (.cons rfl rfl rfl (fun _ => rfl) (by kernel_rfl) (by kernel_rfl) (fun _ _ => rfl) (sbIY rfl rfl hk3909) (.nil)))) (dc rfl (by kernel_rfl) tv rfl rfl (m1 rfl fin1) (dc rfl (by kernel_rfl) tv rfl rfl (m1 rfl fin1) (DC.pre (.head _) rfl (DC.pre (.tail _ (.head _)) rfl (DC.pre (.tail _ (.tail _ (.head _))) rfl (dc rfl (by kernel_rfl) tv rfl rfl (m1 rfl fin1) (dc rfl (by kernel_rfl) tv rfl rfl (m1 rfl fin1) (dc rfl (by kernel_rfl) tv rfl rfl (sbI rfl rfl rfl hk3909 fin1) (dc rfl (by kernel_rfl) tv rfl rfl (iaP U86 Z3 rfl rfl rfl (by omega) (Nat.lt_of_lt_of_eq (lt_of hx3914) hln3836) fin1) (dc rfl (by kernel_rfl) tv rfl rfl (ld G3 rfl rfl (sE 4 rfl (fun _ => rfl) hx3914) rfl fin1) (dc rfl (by kernel_rfl) tv rfl rfl (m1 rfl fin1) ?_)))))))))))
                   refine dc rfl (by kernel_rfl) tv rfl rfl (m1 rfl fin1) (dc rfl (by kernel_rfl) tv rfl rfl (iaP U86 Z3 rfl rfl rfl (by omega) (Nat.lt_of_lt_of_eq (lt_of hx3920) hln3836) fin1) (dc rfl (by kernel_rfl) tv rfl rfl (ld G3 rfl rfl (sE 4 rfl (fun _ => rfl) hx3920) rfl fin1) (DC.nil fun K3922 hF => (iaP U86 Z3 rfl rfl rfl (by omega) (Nat.lt_of_lt_of_eq (lt_of hx3920) hln3836) ?_))))
                   have hln3923 : (s3835.2.set s3835.1.toNat x3913).length = e1192.length := (lenS _ _ _).trans hln3836
                   refine stE 4 x3913 (q := ⟨b3916, 0, none⟩) (j := s3835.1.toNat) (size := 1) (cs := [.int .i64 x3913]) (off := 0) Z3 rfl rfl rfl (fun _ => rfl) hx3920 rfl rfl rfl rfl rfl ?_
                   obtain ⟨x3924, hx3925, hr3926⟩ := bd_some hr3921
                   refine iaP U86 Z3 rfl rfl rfl (by omega) (Nat.lt_of_lt_of_eq (lt_of hx3925) hln3923) ?_
                   have hln3927 : ((s3835.2.set s3835.1.toNat x3913).set ((s3835.1 - 1).toNat) x3919).length = e1192.length := (lenS _ _ _).trans hln3923
                   refine stE 4 x3919 (q := ⟨b3916, 0, none⟩) (j := (s3835.1 - 1).toNat) (size := 1) (cs := [.int .i64 x3919]) (off := 0) Z3 rfl rfl rfl (fun _ => rfl) hx3925 rfl rfl rfl rfl rfl (on (rg (m1 rfl (sbI rfl rfl rfl hk3909 (a1 rfl (on ?_))))))
                   cases hr3926
                   intro a w hS hA
                   exact ⟨_, hz3838, hS.selH [1, 2, 3, 4, 5, 6, 7, 8, 9] rfl, hA.cut ⟨rfl, rfl, rfl, rfl, rfl, rfl, tv⟩, hln3927⟩
                  ·have hr3928 := if_f hc3888 hr3863
                   refine xt rfl ?_
                   cases hr3928
                   obtain rfl := Fin.out hz3838
                   intro a w hS hA
                   exact ⟨hS, hA.cut ⟨rfl, rfl, rfl, rfl, rfl, tv⟩, hln3836⟩
               ·rintro a w ⟨hS, hA, hln3834⟩
                refine TG.ap ?_ hS hA
                refine rg (m1 rfl ?_)
                obtain ⟨hk3929, hr3930⟩ := chk_some hr3833
                refine adI rfl rfl rfl hk3929 (a1 rfl (on ?_))
                cases hr3930
                intro a w hS hA
                exact ⟨_, hz3638, hS, hA.cut ⟨rfl, rfl, rfl, rfl, rfl, tv⟩, hln3834⟩
              ·have hr3931 := if_n hc3643 hr3637
               refine xt rfl ?_
               cases hr3931
               obtain rfl := Fin.out hz3638
               intro a w hS hA
               exact ⟨hS, hA.cut tv, hln3636⟩
            ·rintro a w ⟨hS, hA, hln3634⟩
             refine TG.ap ?_ hS hA
             cases hr3633
             intro a w hS hA
             refine ret0 hA rfl ?_
             exact ⟨_, rfl, ⟨rfl, hS, hln3634⟩⟩
           ·rintro a w v hA (⟨rfl, hS, hln3426⟩)
            refine putK rfl hA hS (on (sq (rg (m1 rfl (a1 rfl (on (rg (m1 rfl (m1 rfl ?_)))))))))
            obtain ⟨hk3932, hr3933⟩ := chk_some hr3425
            refine adI rfl rfl rfl hk3932 (a1 rfl (on ?_))
            cases hr3933
            intro a w hS hA
            exact ⟨_, hz2998, hS, hA.cut ⟨rfl, rfl, rfl, rfl, rfl, rfl, tv⟩, hln3426⟩
          ·have hr3934 := if_n hc3003 hr2997
           refine xt rfl ?_
           cases hr3934
           obtain rfl := Fin.out hz2998
           intro a w hS hA
           exact ⟨hS, hA.cut ⟨rfl, rfl, rfl, rfl, rfl, tv⟩, hln2996⟩
        ·rintro a w ⟨hS, hA, hln2994⟩
         refine TG.ap ?_ hS hA
         refine sq (rg (m1 rfl (m1 rfl (m1 rfl (m1 rfl ?_)))))
         obtain ⟨t4137, hx4138, hr4139⟩ := bd_some hr2993
         refine clI C122 Tryz.func122 rfl Tryz.ntmps122 rfl rfl rfl rfl (fun v w => (v = .tuple #[] ∧ St M W H [K1157, K1131, K1120, K1115, K1112, K1109, K17, K14, H] [(4, Own.list ad1195 cap1196 3 1 (encI .i64) t4137), (2, cel b1158 133 [.slice ad10 r_2.words.length cap11, .int .i64 r_2.out, .int .i64 r_2.within, .map b1129, .slice ad1126 r1117.1.swaps.length cap1127, .slice none 0 0, .slice none 0 0, .slice (some ⟨b1156, 0, none⟩) ((List.replicate requests.length (0 : Int)).length) requests.length]), (1, Own.list (some ⟨b1156, 0, none⟩) requests.length 31 1 (encI .i64) (List.replicate requests.length (0 : Int)))] w ∧ t4137.length = e1192.length)) ?_ ?_
         ·refine sq (rg (m1 rfl ?_))
          obtain ⟨hk4141, hr4142⟩ := chk_some hx4138
          refine adI rfl rfl rfl hk4141 (a1 rfl (on ?_))
          obtain ⟨e4341, hl4342, hr4343⟩ := bd_some hr4142
          refine jn (fun a w => St M W H [K1157, K1131, K1120, K1115, K1112, K1109, K17, K14, H] [(4, Own.list ad1195 cap1196 3 1 (encI .i64) e4341), (2, cel b1158 133 [.slice ad10 r_2.words.length cap11, .int .i64 r_2.out, .int .i64 r_2.within, .map b1129, .slice ad1126 r1117.1.swaps.length cap1127, .slice none 0 0, .slice none 0 0, .slice (some ⟨b1156, 0, none⟩) ((List.replicate requests.length (0 : Int)).length) requests.length]), (1, Own.list (some ⟨b1156, 0, none⟩) requests.length 31 1 (encI .i64) (List.replicate requests.length (0 : Int)))] w ∧ Has [] 53 a [] ∧ e4341.length = e1192.length) ?_ ?_
          ·refine bk ?_
           refine lp hl4342 (fun s4345 a w => St M W H [K1157, K1131, K1120, K1115, K1112, K1109, K17, K14, H] [(4, Own.list ad1195 cap1196 3 1 (encI .i64) s4345.2), (2, cel b1158 133 [.slice ad10 r_2.words.length cap11, .int .i64 r_2.out, .int .i64 r_2.within, .map b1129, .slice ad1126 r1117.1.swaps.length cap1127, .slice none 0 0, .slice none 0 0, .slice (some ⟨b1156, 0, none⟩) ((List.replicate requests.length (0 : Int)).length) requests.length]), (1, Own.list (some ⟨b1156, 0, none⟩) requests.length 31 1 (encI .i64) (List.replicate requests.length (0 : Int)))] w ∧ Has [] 53 a [(0, .slice ad1195 e1192.length cap1196), (1, .int .i64 (e2991.1 : Int)), (2, .int .i64 (e1192.length : Int)), (3, .func (.func 88) [].toArray [.pointer (some q1114)].toArray), (8, .int .i64 (s4345.1 : Int))] ∧ s4345.2.length = e1192.length) ?_ ?_
           ·intro a w hS hA
            exact ⟨hS, hA.cut ⟨rfl, rfl, rfl, rfl, rfl, tv⟩, hln2994⟩
           ·rintro j s4345 y4349 hr4347 hz4348 a w ⟨hS, hA, hln4346⟩
            refine TG.ap ?_ hS hA
            unfold m29_5 at hr4347
            refine sq (sq (rg (m1 rfl (m1 rfl (ltI rfl rfl rfl (on ?_))))))
            refine ci rfl (fun hc4353 => ?_) (fun hc4353 => ?_)
            ·have hr4354 := if_p hc4353 hr4347
             refine sk (sq (bk (sq (rg (m1 rfl (a1 rfl (on ?_)))))))
             obtain ⟨e4541, hl4542, hr4543⟩ := bd_some hr4354
             refine jn (fun a w => St M W H [K1157, K1131, K1120, K1115, K1112, K1109, K17, K14, H] [(4, Own.list ad1195 cap1196 3 1 (encI .i64) e4541), (2, cel b1158 133 [.slice ad10 r_2.words.length cap11, .int .i64 r_2.out, .int .i64 r_2.within, .map b1129, .slice ad1126 r1117.1.swaps.length cap1127, .slice none 0 0, .slice none 0 0, .slice (some ⟨b1156, 0, none⟩) ((List.replicate requests.length (0 : Int)).length) requests.length]), (1, Own.list (some ⟨b1156, 0, none⟩) requests.length 31 1 (encI .i64) (List.replicate requests.length (0 : Int)))] w ∧ Has [] 53 a [(0, .slice ad1195 e1192.length cap1196), (1, .int .i64 (e2991.1 : Int)), (2, .int .i64 (e1192.length : Int)), (3, .func (.func 88) [].toArray [.pointer (some q1114)].toArray), (8, .int .i64 (s4345.1 : Int))] ∧ e4541.length = e1192.length) ?_ ?_
             ·refine bk ?_
              refine lp hl4542 (fun s4545 a w => St M W H [K1157, K1131, K1120, K1115, K1112, K1109, K17, K14, H] [(4, Own.list ad1195 cap1196 3 1 (encI .i64) s4545.2), (2, cel b1158 133 [.slice ad10 r_2.words.length cap11, .int .i64 r_2.out, .int .i64 r_2.within, .map b1129, .slice ad1126 r1117.1.swaps.length cap1127, .slice none 0 0, .slice none 0 0, .slice (some ⟨b1156, 0, none⟩) ((List.replicate requests.length (0 : Int)).length) requests.length]), (1, Own.list (some ⟨b1156, 0, none⟩) requests.length 31 1 (encI .i64) (List.replicate requests.length (0 : Int)))] w ∧ Has [] 53 a [(0, .slice ad1195 e1192.length cap1196), (1, .int .i64 (e2991.1 : Int)), (2, .int .i64 (e1192.length : Int)), (3, .func (.func 88) [].toArray [.pointer (some q1114)].toArray), (8, .int .i64 (s4345.1 : Int)), (9, .int .i64 s4545.1)] ∧ s4545.2.length = e1192.length) ?_ ?_
              ·intro a w hS hA
               exact ⟨hS, hA.cut ⟨rfl, rfl, rfl, rfl, rfl, rfl, tv⟩, hln4346⟩
              ·rintro j s4545 y4549 hr4547 hz4548 a w ⟨hS, hA, hln4546⟩
               refine TG.ap ?_ hS hA
               unfold m29_6 at hr4547
               refine sq (sq ?_)
               obtain ⟨t4571, hx4572, hr4573⟩ := bd_some hr4547
               refine jn (fun a w => St M W H [K1157, K1131, K1120, K1115, K1112, K1109, K17, K14, H] [(4, Own.list ad1195 cap1196 3 1 (encI .i64) s4545.2), (2, cel b1158 133 [.slice ad10 r_2.words.length cap11, .int .i64 r_2.out, .int .i64 r_2.within, .map b1129, .slice ad1126 r1117.1.swaps.length cap1127, .slice none 0 0, .slice none 0 0, .slice (some ⟨b1156, 0, none⟩) ((List.replicate requests.length (0 : Int)).length) requests.length]), (1, Own.list (some ⟨b1156, 0, none⟩) requests.length 31 1 (encI .i64) (List.replicate requests.length (0 : Int)))] w ∧ Has [] 53 a [(0, .slice ad1195 e1192.length cap1196), (1, .int .i64 (e2991.1 : Int)), (2, .int .i64 (e1192.length : Int)), (3, .func (.func 88) [].toArray [.pointer (some q1114)].toArray), (8, .int .i64 (s4345.1 : Int)), (9, .int .i64 s4545.1), (34, .bool t4571)]) ?_ ?_
               ·by_cases hb4574 : (e2991.1 : Int) < s4545.1
                ·have hr4575 := if_p hb4574 hx4572
                 obtain ⟨hk4576, hr4577⟩ := chk_some hr4575
                 obtain ⟨x4578, hx4579, hr4580⟩ := bd_some hr4577
                 refine TG.addr 4 rfl (lt_of0 hx4579) fun b4581 h => ?_; subst h
                 obtain ⟨hk4582, hr4583⟩ := chk_some hr4580
                 obtain ⟨hk4584, hr4585⟩ := chk_some hr4583
                 obtain ⟨x4586, hx4587, hr4588⟩ := bd_some hr4585
                 refine drG 14 mixed (by kernel_rfl) rfl (dt rfl (m1 rfl fin1) (dt rfl (m1 rfl fin1) (dt rfl (gtI rfl rfl rfl fin1) (dt rfl (m1 rfl fin1) (dt rfl (gt hb4574 rfl (m1 rfl fin1)) (dt rfl (gt hb4574 rfl (m1 rfl fin1)) (dt rfl (gt hb4574 rfl (m1 rfl fin1)) (dt rfl (gt hb4574 rfl (iaP U86 Z3 rfl rfl rfl (by omega) (Nat.lt_of_lt_of_eq (lt_of hx4579) hln4546) fin1)) (dt rfl (gt hb4574 rfl (ld G3 rfl rfl (sE 4 rfl (fun _ => rfl) hx4579) rfl fin1)) (dt rfl (gt hb4574 rfl (m1 rfl fin1)) (dt rfl (gt hb4574 rfl (m1 rfl fin1)) ?_)))))))))))
                 refine dt rfl (gt hb4574 rfl (sbI rfl rfl rfl hk4582 fin1)) (dt rfl (gt hb4574 rfl (iaP U86 Z3 rfl rfl rfl (by omega) (Nat.lt_of_lt_of_eq (lt_of hx4587) hln4546) fin1)) (dt rfl (gt hb4574 rfl (ld G3 rfl rfl (sE 4 rfl (fun _ => rfl) hx4587) rfl fin1)) (DF.nil fun K4589 hF => (gt hb4574 rfl ?_))))
                 obtain ⟨r4590, hx4591, hr4592⟩ := bd_some hr4588
                 refine clS C88 rfl rfl rfl rfl (fun w H hH le => w88 hH x4578 x4586 (f0_ := requests) (hK1116.mono (le.at 4 rfl)) (h_requests.mono (RRequest.mono) (le.at 9 rfl)) hx4591) (gt hb4574 rfl (ltI rfl rfl rfl (pt hb4574 rfl rfl (on ?_))))
                 cases hr4592
                 intro a w hS hA
                 exact ⟨hS.selH [1, 2, 3, 4, 5, 6, 7, 8, 9] rfl, hA.cut ⟨rfl, rfl, rfl, rfl, rfl, rfl, rfl, tv⟩⟩
                ·have hr4593 := if_n hb4574 hx4572
                 refine drG 14 mixed (by kernel_rfl) rfl (dt rfl (m1 rfl fin1) (dt rfl (m1 rfl fin1) (dt rfl (gtI rfl rfl rfl fin1) (dt rfl (m1 rfl fin1) (dt rfl (gf hb4574 rfl fin1) (dt rfl (gf hb4574 rfl fin1) (dt rfl (gf hb4574 rfl fin1) (dt rfl (gf hb4574 rfl fin1) (dt rfl (gf hb4574 rfl fin1) (dt rfl (gf hb4574 rfl fin1) (dt rfl (gf hb4574 rfl fin1) ?_)))))))))))
                 refine dt rfl (gf hb4574 rfl fin1) (dt rfl (gf hb4574 rfl fin1) (dt rfl (gf hb4574 rfl fin1) (DF.nil fun K4594 hF => (gf hb4574 rfl (gf hb4574 rfl (pf hb4574 rfl rfl (on ?_)))))))
                 cases hr4593
                 intro a w hS hA
                 exact ⟨hS.selH [1, 2, 3, 4, 5, 6, 7, 8, 9] rfl, hA.cut ⟨rfl, rfl, rfl, rfl, rfl, rfl, rfl, tv⟩⟩
               ·rintro a w ⟨hS, hA⟩
                refine TG.ap ?_ hS hA
                refine cb rfl (fun hc4598 => ?_) (fun hc4598 => ?_)
                ·have hr4599 := if_p hc4598 hr4573
                 refine sk (sq (bk ?_))
                 obtain ⟨hk4619, hr4620⟩ := chk_some hr4599
                 obtain ⟨hk4621, hr4622⟩ := chk_some hr4620
                 obtain ⟨x4623, hx4624, hr4625⟩ := bd_some hr4622
                 refine TG.addr 4 rfl (lt_of0 hx4624) fun b4626 h => ?_; subst h
                 obtain ⟨hk4627, hr4628⟩ := chk_some hr4625
                 obtain ⟨x4629, hx4630, hr4631⟩ := bd_some hr4628
                 refine drG3 14 [] [(2, 39, .slice (some ⟨b4626, 0, none⟩) e1192.length cap1196), (3, 40, .int .i64 s4545.1), (4, 41, .int .i64 (s4545.1 - 1))] mixed (fun _ _ _ _ _ h => h) (by kernel_rfl) (by kernel_rfl) (by kernel_rfl) rfl (by kernel_rfl) (.cons rfl rfl rfl (fun _ => rfl) (by kernel_rfl) (by kernel_rfl) (fun _ _ => rfl) (mvY rfl) (.cons rfl rfl rfl (fun _ => rfl) (by kernel_rfl) (by kernel_rfl) (fun _ _ => rfl) (mvY rfl) (.cons rfl rfl rfl (fun _ => rfl) (by kernel_rfl) (by kernel_rfl) (fun _ _ => rfl) (sbIY rfl rfl hk4619) (.nil)))) (dc rfl (by kernel_rfl) tv rfl rfl (m1 rfl fin1) (dc rfl (by kernel_rfl) tv rfl rfl (m1 rfl fin1) (DC.pre (.head _) rfl (DC.pre (.tail _ (.head _)) rfl (DC.pre (.tail _ (.tail _ (.head _))) rfl (dc rfl (by kernel_rfl) tv rfl rfl (m1 rfl fin1) (dc rfl (by kernel_rfl) tv rfl rfl (m1 rfl fin1) (dc rfl (by kernel_rfl) tv rfl rfl (sbI rfl rfl rfl hk4619 fin1) (dc rfl (by kernel_rfl) tv rfl rfl (iaP U86 Z3 rfl rfl rfl (by omega) (Nat.lt_of_lt_of_eq (lt_of hx4624) hln4546) fin1) (dc rfl (by kernel_rfl) tv rfl rfl (ld G3 rfl rfl (sE 4 rfl (fun _ => rfl) hx4624) rfl fin1) (dc rfl (by kernel_rfl) tv rfl rfl (m1 rfl fin1) ?_)))))))))))
                 refine dc rfl (by kernel_rfl) tv rfl rfl (m1 rfl fin1) (dc rfl (by kernel_rfl) tv rfl rfl (iaP U86 Z3 rfl rfl rfl (by omega) (Nat.lt_of_lt_of_eq (lt_of hx4630) hln4546) fin1) (dc rfl (by kernel_rfl) tv rfl rfl (ld G3 rfl rfl (sE 4 rfl (fun _ => rfl) hx4630) rfl fin1) (DC.nil fun K4632 hF => (iaP U86 Z3 rfl rfl rfl (by omega) (Nat.lt_of_lt_of_eq (lt_of hx4630) hln4546) ?_))))
                 have hln4633 : (s4545.2.set s4545.1.toNat x4623).length = e1192.length := (lenS _ _ _).trans hln4546
                 refine stE 4 x4623 (q := ⟨b4626, 0, none⟩) (j := s4545.1.toNat) (size := 1) (cs := [.int .i64 x4623]) (off := 0) Z3 rfl rfl rfl (fun _ => rfl) hx4630 rfl rfl rfl rfl rfl ?_
                 obtain ⟨x4634, hx4635, hr4636⟩ := bd_some hr4631
                 refine iaP U86 Z3 rfl rfl rfl (by omega) (Nat.lt_of_lt_of_eq (lt_of hx4635) hln4633) ?_
                 have hln4637 : ((s4545.2.set s4545.1.toNat x4623).set ((s4545.1 - 1).toNat) x4629).length = e1192.length := (lenS _ _ _).trans hln4633
                 refine stE 4 x4629 (q := ⟨b4626, 0, none⟩) (j := (s4545.1 - 1).toNat) (size := 1) (cs := [.int .i64 x4629]) (off := 0) Z3 rfl rfl rfl (fun _ => rfl) hx4635 rfl rfl rfl rfl rfl (on (rg (m1 rfl (sbI rfl rfl rfl hk4619 (a1 rfl (on ?_))))))
                 cases hr4636
                 intro a w hS hA
                 exact ⟨_, hz4548, hS.selH [1, 2, 3, 4, 5, 6, 7, 8, 9] rfl, hA.cut ⟨rfl, rfl, rfl, rfl, rfl, rfl, tv⟩, hln4637⟩
                ·have hr4638 := if_f hc4598 hr4573
                 refine xt rfl ?_
                 cases hr4638
                 obtain rfl := Fin.out hz4548
                 intro a w hS hA
                 exact ⟨hS, hA.cut ⟨rfl, rfl, rfl, rfl, rfl, tv⟩, hln4546⟩
             ·rintro a w ⟨hS, hA, hln4544⟩
              refine TG.ap ?_ hS hA
              refine rg (m1 rfl (adI rfl rfl rfl (by omega) (a1 rfl (on ?_))))
              cases hr4543
              intro a w hS hA
              exact ⟨_, hz4348, hS, hA.cut ⟨rfl, rfl, rfl, rfl, rfl, tv⟩, hln4544⟩
            ·have hr4639 := if_n hc4353 hr4347
             refine xt rfl ?_
             cases hr4639
             obtain rfl := Fin.out hz4348
             intro a w hS hA
             exact ⟨hS, hA.cut tv, hln4346⟩
          ·rintro a w ⟨hS, hA, hln4344⟩
           refine TG.ap ?_ hS hA
           cases hr4343
           intro a w hS hA
           refine ret0 hA rfl ?_
           exact ⟨_, rfl, ⟨rfl, hS, hln4344⟩⟩
         ·rintro a w v hA (⟨rfl, hS, hln4140⟩)
          refine putK rfl hA hS (on ?_)
          obtain ⟨e4660, hl4661, hr4662⟩ := bd_some hr4139
          refine jn (fun a w => St M W H [K1157, K1131, K1120, K1115, K1112, K1109, K17, K14, H] [(4, Own.list ad1195 cap1196 3 1 (encI .i64) t4137), (2, cel b1158 133 [.slice ad10 r_2.words.length cap11, .int .i64 r_2.out, .int .i64 r_2.within, .map b1129, .slice ad1126 r1117.1.swaps.length cap1127, .slice none 0 0, .slice none 0 0, .slice (some ⟨b1156, 0, none⟩) ((List.replicate requests.length (0 : Int)).length) requests.length]), (1, Own.list (some ⟨b1156, 0, none⟩) requests.length 31 1 (encI .i64) (List.replicate requests.length (0 : Int)))] w ∧ Has [] 63 a []) ?_ ?_
          ·refine bk ?_
           refine lp hl4661 (fun s4663 a w => St M W H [K1157, K1131, K1120, K1115, K1112, K1109, K17, K14, H] [(4, Own.list ad1195 cap1196 3 1 (encI .i64) t4137), (2, cel b1158 133 [.slice ad10 r_2.words.length cap11, .int .i64 r_2.out, .int .i64 r_2.within, .map b1129, .slice ad1126 r1117.1.swaps.length cap1127, .slice none 0 0, .slice none 0 0, .slice (some ⟨b1156, 0, none⟩) ((List.replicate requests.length (0 : Int)).length) requests.length]), (1, Own.list (some ⟨b1156, 0, none⟩) requests.length 31 1 (encI .i64) (List.replicate requests.length (0 : Int)))] w ∧ Has [] 63 a [(0, .slice ad1195 e1192.length cap1196), (1, .int .i64 (e1192.length : Int)), (2, .func (.func 88) [].toArray [.pointer (some q1114)].toArray), (6, .int .i64 s4663)]) ?_ ?_
           ·exact cu ⟨rfl, rfl, rfl, rfl, tv⟩
           ·rintro j s4663 y4666 hr4664 hz4665 a w ⟨hS, hA⟩
            refine TG.ap ?_ hS hA
            unfold m29_7 at hr4664
            refine sq (sq (rg (m1 rfl (m1 rfl (ltI rfl rfl rfl (on ?_))))))
            refine ci rfl (fun hc4670 => ?_) (fun hc4670 => ?_)
            ·have hr4671 := if_p hc4670 hr4664
             refine sk (bk (sq (rg (m1 rfl ?_))))
             obtain ⟨hk4688, hr4689⟩ := chk_some hr4671
             refine mlI rfl rfl rfl hk4688 (a1 rfl (a1 rfl (on (sq ?_))))
             obtain ⟨e4696, hl4697, hr4698⟩ := bd_some hr4689
             refine jn (fun a w => St M W H [K1157, K1131, K1120, K1115, K1112, K1109, K17, K14, H] [(4, Own.list ad1195 cap1196 3 1 (encI .i64) t4137), (2, cel b1158 133 [.slice ad10 r_2.words.length cap11, .int .i64 r_2.out, .int .i64 r_2.within, .map b1129, .slice ad1126 r1117.1.swaps.length cap1127, .slice none 0 0, .slice none 0 0, .slice (some ⟨b1156, 0, none⟩) ((List.replicate requests.length (0 : Int)).length) requests.length]), (1, Own.list (some ⟨b1156, 0, none⟩) requests.length 31 1 (encI .i64) (List.replicate requests.length (0 : Int)))] w ∧ Has [] 63 a [(0, .slice ad1195 e1192.length cap1196), (1, .int .i64 (e1192.length : Int)), (2, .func (.func 88) [].toArray [.pointer (some q1114)].toArray), (6, .int .i64 s4663), (7, .int .i64 (e4696 : Int))]) ?_ ?_
             ·refine bk ?_
              refine lp hl4697 (fun s4699 a w => St M W H [K1157, K1131, K1120, K1115, K1112, K1109, K17, K14, H] [(4, Own.list ad1195 cap1196 3 1 (encI .i64) t4137), (2, cel b1158 133 [.slice ad10 r_2.words.length cap11, .int .i64 r_2.out, .int .i64 r_2.within, .map b1129, .slice ad1126 r1117.1.swaps.length cap1127, .slice none 0 0, .slice none 0 0, .slice (some ⟨b1156, 0, none⟩) ((List.replicate requests.length (0 : Int)).length) requests.length]), (1, Own.list (some ⟨b1156, 0, none⟩) requests.length 31 1 (encI .i64) (List.replicate requests.length (0 : Int)))] w ∧ Has [] 63 a [(0, .slice ad1195 e1192.length cap1196), (1, .int .i64 (e1192.length : Int)), (2, .func (.func 88) [].toArray [.pointer (some q1114)].toArray), (6, .int .i64 s4663), (7, .int .i64 (s4699.1 : Int)), (8, .int .i64 s4699.2)]) ?_ ?_
              ·exact cu ⟨rfl, rfl, rfl, rfl, rfl, rfl, tv⟩
              ·rintro j s4699 y4702 hr4700 hz4701 a w ⟨hS, hA⟩
               refine TG.ap ?_ hS hA
               unfold m29_8 at hr4700
               refine sq (sq (rg (m1 rfl (m1 rfl (leI rfl rfl rfl (on ?_))))))
               refine ci rfl (fun hc4706 => ?_) (fun hc4706 => ?_)
               ·have hr4707 := if_p hc4706 hr4700
                refine sk (bk (sq (rg (m1 rfl (m1 rfl (m1 rfl (m1 rfl ?_)))))))
                obtain ⟨hk4710, hr4711⟩ := chk_some hr4707
                refine adI rfl rfl rfl hk4710 (m1 rfl (m1 rfl ?_))
                cases hr4711
               ·have hr4712 := if_n hc4706 hr4700
                refine xt rfl ?_
                cases hr4712
                obtain rfl := Fin.out hz4701
                exact cu ⟨rfl, rfl, rfl, rfl, rfl, tv⟩
             ·rintro a w ⟨hS, hA⟩
              refine TG.ap ?_ hS hA
              refine sq (sq (rg (m1 rfl (m1 rfl ?_))))
              obtain ⟨hk4713, hr4714⟩ := chk_some hr4698
              refine adI rfl rfl rfl hk4713 (a1 rfl (on (sq (rg (m1 rfl (m1 rfl (ltI rfl rfl rfl (on ?_))))))))
              refine ci rfl (fun hc4718 => ?_) (fun hc4718 => ?_)
              ·have hr4719 := if_p hc4718 hr4714
               refine rg (m1 rfl (m1 rfl (m1 rfl (m1 rfl (m1 rfl ?_)))))
               cases hr4719
              ·have hr4720 := if_n hc4718 hr4714
               refine sk (rg (m1 rfl ?_))
               obtain ⟨hk4721, hr4722⟩ := chk_some hr4720
               refine mlI rfl rfl rfl hk4721 (a1 rfl (on ?_))
               cases hr4722
               intro a w hS hA
               exact ⟨_, hz4665, hS, hA.cut ⟨rfl, rfl, rfl, rfl, tv⟩⟩
            ·have hr4723 := if_n hc4670 hr4664
             refine xt rfl ?_
             cases hr4723
             obtain rfl := Fin.out hz4665
             exact cu tv
          ·rintro a w ⟨hS, hA⟩
           refine TG.ap ?_ hS hA
           cases hr4662
           intro a w hS hA
           refine ret0 hA rfl ?_
           exact ⟨_, rfl, ⟨rfl, hS, hln4140⟩⟩
       ·rintro a w v hA (⟨rfl, hS, hln2556⟩)
        refine putK rfl hA hS (on ?_)
        cases hr2555
        intro a w hS hA
        refine ret0 hA rfl ?_
        exact ⟨_, rfl, ⟨rfl, hS, hln2556⟩⟩
      ·rintro a w v hA (⟨rfl, hS, hln1889⟩)
       refine putK rfl hA hS (on (sq (sq (rg (m1 rfl (TG.len 4 rfl fun _ => (lnL U86 rfl rfl (m1 rfl (on (TG.nilRow 7 63 5 ?_))))))))))
       have hR4837 : Rows (RRequest) 5 H [] ([] : List Request) := tv
       refine TG.nilRow 8 3 1 (TG.as 8 (z := Own.list none 0 3 1 (encI .i64) ([] : List Int)) rfl rfl (TG.as 7 (z := Own.rows none 0 63 5 [] ([] : List Request)) rfl rfl ?_))
       obtain ⟨e5013, hl5014, hr5015⟩ := bd_some hr1888
       refine jn (fun a w => ∃ (ad5016 : Option Addr) (cap5017 : Nat) (ad5018 : Option Addr) (cap5019 : Nat) (css5020 : List (List Value)) (K5021 : Hp), St M W H [K5021, K1157, K1131, K1120, K1115, K1112, K1109, K17, K14, H] [(8, Own.list ad5016 cap5017 3 1 (encI .i64) e5013.1), (7, Own.rows ad5018 cap5019 63 5 css5020 e5013.2.1), (4, Own.list ad1195 cap1196 3 1 (encI .i64) t1886), (2, cel b1158 133 [.slice ad10 r_2.words.length cap11, .int .i64 r_2.out, .int .i64 r_2.within, .map b1129, .slice ad1126 r1117.1.swaps.length cap1127, .slice ad5018 e5013.2.1.length cap5019, .slice ad5016 e5013.1.length cap5017, .slice (some ⟨b1156, 0, none⟩) ((List.replicate requests.length (0 : Int)).length) requests.length]), (1, Own.list (some ⟨b1156, 0, none⟩) requests.length 31 1 (encI .i64) e5013.2.2)] w ∧ Has [] 106 a [(13, .pointer (some (⟨b1158, 0, none⟩)))] ∧ Rows (RRequest) 5 K5021 css5020 e5013.2.1 ∧ e5013.2.2.length = (List.replicate requests.length (0 : Int)).length) ?_ ?_
       ·refine bk ?_
        refine lp hl5014 (fun s5024 a w => ∃ (ad5025 : Option Addr) (cap5026 : Nat) (ad5027 : Option Addr) (cap5028 : Nat) (css5029 : List (List Value)) (K5030 : Hp), St M W H [K5030, K1157, K1131, K1120, K1115, K1112, K1109, K17, K14, H] [(8, Own.list ad5025 cap5026 3 1 (encI .i64) s5024.2.1), (7, Own.rows ad5027 cap5028 63 5 css5029 s5024.2.2.1), (4, Own.list ad1195 cap1196 3 1 (encI .i64) t1886), (2, cel b1158 133 [.slice ad10 r_2.words.length cap11, .int .i64 r_2.out, .int .i64 r_2.within, .map b1129, .slice ad1126 r1117.1.swaps.length cap1127, .slice ad5027 s5024.2.2.1.length cap5028, .slice ad5025 s5024.2.1.length cap5026, .slice (some ⟨b1156, 0, none⟩) ((List.replicate requests.length (0 : Int)).length) requests.length]), (1, Own.list (some ⟨b1156, 0, none⟩) requests.length 31 1 (encI .i64) s5024.2.2.2)] w ∧ Has [] 106 a [(7, .pointer (some q1114)), (13, .pointer (some (⟨b1158, 0, none⟩))), (55, .slice ad1195 e1192.length cap1196), (56, .int .i64 (e1192.length : Int)), (57, .int .i64 (s5024.1 : Int))] ∧ Rows (RRequest) 5 K5030 css5029 s5024.2.2.1 ∧ s5024.2.2.2.length = (List.replicate requests.length (0 : Int)).length) ?_ ?_
        ·intro a w hS hA
         exact ⟨none, 0, none, 0, [], H, hS.selH [8, 0, 1, 2, 3, 4, 5, 6, 7, 8] rfl, hA.cut ⟨rfl, rfl, rfl, rfl, rfl, tv⟩, hR4837, rfl⟩
        ·rintro j s5024 y5035 hr5033 hz5034 a w ⟨ad5025, cap5026, ad5027, cap5028, css5029, K5030, hS, hA, hR5031, hln5032⟩
         refine TG.ap ?_ hS hA
         unfold m29_9 at hr5033
         refine sq (rg (ltI rfl rfl rfl (on (sq ?_))))
         refine ci rfl (fun hc5039 => ?_) (fun hc5039 => ?_)
         ·have hr5040 := if_p hc5039 hr5033
          refine sk (sq (bk (sq (rg ?_))))
          obtain ⟨x5113, hx5114, hr5115⟩ := bd_some hr5040
          refine TG.addr 4 rfl (lt_of0 hx5114) fun b5116 h => ?_; subst h
          refine iaP U86 Z3 rfl rfl rfl rfl (Nat.lt_of_lt_of_eq (lt_of hx5114) hln1889) (ld G3 rfl rfl (sE 4 rfl (fun _ => rfl) hx5114) rfl (a1 rfl (on (sq ?_))))
          obtain ⟨hk5117, hr5118⟩ := chk_some hr5115
          obtain ⟨x5119, hx5120, hr5121⟩ := bd_some hr5118
          obtain ⟨p5122, rfl⟩ := h_requests.adr hx5120
          obtain ⟨cs5123, hcs5124, hq5125, hr5126⟩ := h_requests.at hx5120
          have hr5127 := hr5126
          obtain ⟨ad5128, cap5129, rfl, hl5130⟩ := hr5126
          have := hl5130.len
          obtain ⟨r5131, hx5132, hr5133⟩ := bd_some hr5121
          refine drG 11 mixed (by kernel_rfl) rfl (dt rfl (m1 rfl fin1) (dt rfl (nl rfl rfl fin1) (dt rfl (fb 7 U133 rfl rfl rfl rfl Z59 fin1) (dt rfl (ld G59 rfl rfl ((sO 2 rfl).drop 7) rfl fin1) (dt rfl (m1 rfl fin1) (dt rfl (m1 rfl fin1) (dt rfl (ld G64 rfl rfl (sS 5 rfl hK1116) rfl fin1) (dt rfl (m1 rfl fin1) (dt rfl (iaP U64 Z63 rfl rfl rfl (by omega) (lt_of hx5120) fin1) (dt rfl (ldA G63 Z63 rfl rfl (sS 10 rfl hq5125) rfl fin1) (dt rfl (clL C90 rfl rfl rfl rfl (fun w hS => w90 (Hp.le.refl (hp w)) (hg.mono (hS.hp 10 rfl)) (⟨r_2, r1117.1, s5024.2.2.1, s5024.2.1, s5024.2.2.2⟩ : decided) (cell_at (hS.get (t := 2) rfl)) ⟨ad10, cap11, (.map b1129), ad1126, cap1127, ad5027, cap5028, ad5025, cap5026, (some ⟨b1156, 0, none⟩), requests.length, (by simp only [hln5032]), (hl12.mono (Flat.mono _) (hS.hp 10 rfl)), (hm1125.mono (hS.hp 4 rfl)), (hl1128.mono (Flat.mono _) (hS.hp 4 rfl)), (rows_sl (H := hp w) (hS.get (t := 7) rfl) (hR5031.mono (RRequest.mono) (hS.hp 1 rfl)) (fun _ _ _ ho => ho)), (list_sl (H := hp w) (enc := encI .i64) (size := 1) (ad := ad5025) (cap := cap5026) (el := 3) (l := s5024.2.1) (fun _ => rfl) (hS.get (t := 8) rfl) (fun _ _ _ ho => ho)), (list_sl (H := hp w) (enc := encI .i64) (size := 1) (ad := (some ⟨b1156, 0, none⟩)) (cap := requests.length) (el := 31) (l := s5024.2.2.2) (fun _ => rfl) (hS.get (t := 1) rfl) (fun _ _ _ ho => ho))⟩ x5119 (RRequest.mono _ _ _ _ (hS.hp 10 rfl) hr5127) hx5132) fin1) ?_)))))))))))
          refine DF.nil fun K5134 hF => ?_
          obtain ⟨x5135, hx5136, hr5137⟩ := bd_some hr5133
          refine iaP U59 Z31 rfl rfl rfl (by omega) (Nat.lt_of_lt_of_eq (lt_of hx5136) hln5032) ?_
          have hln5138 : (s5024.2.2.2.set x5113.toNat r5131).length = (List.replicate requests.length (0 : Int)).length := (lenS _ _ _).trans hln5032
          refine stE 1 r5131 (q := ⟨b1156, 0, none⟩) (j := x5113.toNat) (size := 1) (cs := [.int .i64 r5131]) (off := 0) Z31 rfl rfl rfl (fun _ => rfl) hx5136 rfl rfl rfl rfl rfl (on (sq (rg (m1 rfl (nl rfl rfl (fb 7 U133 rfl rfl rfl rfl Z59 (ld G59 rfl rfl ((sO 2 rfl).drop 7) rfl (m1 rfl ?_))))))))
          obtain ⟨x5139, hx5140, hr5141⟩ := bd_some hr5137
          refine iaP U59 Z31 rfl rfl rfl (by omega) (Nat.lt_of_lt_of_eq (lt_of hx5140) hln5138) (ld G31 rfl rfl (sE 1 rfl (fun _ => rfl) hx5140) rfl (eqI rfl rfl rfl (on ?_)))
          obtain ⟨t5177, hx5178, hr5179⟩ := bd_some hr5141
          refine jn (fun a w => ∃ (ad5180 : Option Addr) (cap5181 : Nat) (ad5182 : Option Addr) (cap5183 : Nat) (css5184 : List (List Value)) (K5185 : Hp), St M W H [K5185, K5134, K5030, K1157, K1131, K1120, K1115, K1112, K1109, K17, K14, H] [(8, Own.list ad5180 cap5181 3 1 (encI .i64) t5177.1), (7, Own.rows ad5182 cap5183 63 5 css5184 t5177.2), (4, Own.list (some ⟨b5116, 0, none⟩) cap1196 3 1 (encI .i64) t1886), (2, cel b1158 133 [.slice ad10 r_2.words.length cap11, .int .i64 r_2.out, .int .i64 r_2.within, .map b1129, .slice ad1126 r1117.1.swaps.length cap1127, .slice ad5182 t5177.2.length cap5183, .slice ad5180 t5177.1.length cap5181, .slice (some ⟨b1156, 0, none⟩) ((List.replicate requests.length (0 : Int)).length) requests.length]), (1, Own.list (some ⟨b1156, 0, none⟩) requests.length 31 1 (encI .i64) (s5024.2.2.2.set x5113.toNat r5131))] w ∧ Has [] 106 a [(7, .pointer (some q1114)), (13, .pointer (some (⟨b1158, 0, none⟩))), (55, .slice (some ⟨b5116, 0, none⟩) e1192.length cap1196), (56, .int .i64 (e1192.length : Int)), (57, .int .i64 (s5024.1 : Int))] ∧ Rows (RRequest) 5 K5185 css5184 t5177.2) ?_ ?_
          ·refine ci rfl (fun hc5187 => ?_) (fun hc5187 => ?_)
           ·have hr5188 := if_p hc5187 hx5178
            obtain ⟨hk5198, hr5199⟩ := chk_some hr5188
            have := lenA s5024.2.2.1 ([x5119] : List Request)
            obtain ⟨hk5216, hr5217⟩ := chk_some hr5199
            have := lenA s5024.2.1 ([x5113] : List Int)
            refine drG3 19 [11, 18] [(1, 82, .pointer (some (⟨b1158, 0, none⟩)))] mixed (fun _ _ _ _ _ h => h) (by kernel_rfl) (by kernel_rfl) (by kernel_rfl) rfl (by kernel_rfl) (.cons rfl rfl rfl (fun _ => rfl) (by kernel_rfl) (by kernel_rfl) (fun _ _ => rfl) (mvY rfl) (.nil)) (DC.detA rfl rfl rfl (fun τ a w K hS hA hF => TG.pa hS hA (m1 rfl fin1)) (DC.pre (.head _) rfl (dc rfl (by kernel_rfl) tv rfl rfl (m1 rfl fin1) (dc rfl (by kernel_rfl) tv rfl rfl (nl rfl rfl fin1) (dc rfl (by kernel_rfl) tv rfl rfl (fb 5 U133 rfl rfl rfl rfl Z64 fin1) (dc rfl (by kernel_rfl) tv rfl rfl (ld G64 rfl rfl (((sO 2 rfl).drop 5).take 1) rfl fin1) (dc rfl (by kernel_rfl) tv rfl rfl (ld G64 rfl rfl (sS 6 rfl hK1116) rfl fin1) (dc rfl (by kernel_rfl) tv rfl rfl (m1 rfl fin1) (dc rfl (by kernel_rfl) tv rfl rfl (iaP U64 Z63 rfl rfl rfl (by omega) (lt_of hx5120) fin1) (dc rfl (by kernel_rfl) tv rfl rfl (ldA G63 Z63 rfl rfl (sS 11 rfl hq5125) rfl fin1) ?_))))))))))
            refine DC.und (α := Option Addr × Nat) (none, 0) (fun q => .slice q.1 1 q.2) (fun (q : Option Addr × Nat) K => Sl (RRequest) 5 K q.1 q.2 ([x5119] : List Request)) (fun τ => τ = [(8, Own.list ad5025 cap5026 3 1 (encI .i64) s5024.2.1), (7, Own.rows ad5027 cap5028 63 5 css5029 s5024.2.2.1), (4, Own.list (some ⟨b5116, 0, none⟩) cap1196 3 1 (encI .i64) t1886), (2, cel b1158 133 [.slice ad10 r_2.words.length cap11, .int .i64 r_2.out, .int .i64 r_2.within, .map b1129, .slice ad1126 r1117.1.swaps.length cap1127, .slice ad5027 s5024.2.2.1.length cap5028, .slice ad5025 s5024.2.1.length cap5026, .slice (some ⟨b1156, 0, none⟩) ((List.replicate requests.length (0 : Int)).length) requests.length]), (1, Own.list (some ⟨b1156, 0, none⟩) requests.length 31 1 (encI .i64) (s5024.2.2.2.set x5113.toNat r5131))]) rfl rfl (by kernel_rfl) tv (fun _ _ _ h x => x.mono (RRequest.mono) h) (by kernel_rfl) rfl rfl (fun τ hτ a w K hS hA hF => by subst hτ <;> exact TG.pa hS hA (bS (cs := [.int .i64 x5119.by_, .int .i64 x5119.minute, .int .i64 x5119.from_, .int .i64 x5119.cut, .slice ad5128 x5119.put_.length cap5129]) T4.E64 rfl rfl rfl rfl fun q5189 K5190 hq5191 hK5192 => by
              refine TG.pack (fun K => Sl (RRequest) 5 K (some q5189) 1 ([x5119] : List Request)) (fun H le => Sl.litR (css := [[.int .i64 x5119.by_, .int .i64 x5119.minute, .int .i64 x5119.from_, .int .i64 x5119.cut, .slice ad5128 x5119.put_.length cap5129]]) (l := ([x5119] : List Request)) ⟨⟨rfl, rfl, (RRequest.mono _ _ _ _ (le.at 12 rfl) hr5127)⟩, tv⟩ hq5191 (hK5192.mono (le.at 0 rfl)) rfl) fun K5194 hl5193 => ?_
              have := hl5193.len
              refine sk1 ?_
              exact finU (f := fun q => .slice q.1 1 q.2) (G := (fun (q : Option Addr × Nat) K => Sl (RRequest) 5 K q.1 q.2 ([x5119] : List Request))) (_, _) (fun _ _ _ h x => x.mono (RRequest.mono) h) hl5193)) ?_
            rintro ⟨ad5196, cap5197⟩
            refine DC.turn (α := Option Addr × Nat × List (List Value)) (none, 0, []) (fun q => .slice q.1 ((s5024.2.2.1 ++ ([x5119] : List Request)).length) q.2.1) (fun (q : Option Addr × Nat × List (List Value)) K => Rows (RRequest) 5 K q.2.2 (s5024.2.2.1 ++ ([x5119] : List Request))) (fun q => [(8, Own.list ad5025 cap5026 3 1 (encI .i64) s5024.2.1), (7, Own.rows q.1 q.2.1 63 5 q.2.2 (s5024.2.2.1 ++ ([x5119] : List Request))), (4, Own.list (some ⟨b5116, 0, none⟩) cap1196 3 1 (encI .i64) t1886), (2, cel b1158 133 [.slice ad10 r_2.words.length cap11, .int .i64 r_2.out, .int .i64 r_2.within, .map b1129, .slice ad1126 r1117.1.swaps.length cap1127, .slice ad5027 s5024.2.2.1.length cap5028, .slice ad5025 s5024.2.1.length cap5026, .slice (some ⟨b1156, 0, none⟩) ((List.replicate requests.length (0 : Int)).length) requests.length]), (1, Own.list (some ⟨b1156, 0, none⟩) requests.length 31 1 (encI .i64) (s5024.2.2.2.set x5113.toNat r5131))]) rfl (fun _ _ _ h x => x.mono (RRequest.mono) h) (by kernel_rfl) rfl rfl (fun a w K hS hA hF => TG.pa hS hA (TG.pack (fun K => Sl (RRequest) 5 K ad5196 cap5197 ([x5119] : List Request) ∧ Rows (RRequest) 5 K css5029 s5024.2.2.1) (fun H le => ⟨(hF.1 rfl).mono (RRequest.mono) (le.at 0 rfl), hR5031.mono (RRequest.mono) (le.at 2 rfl)⟩) fun K5202 ⟨hm5203, hR5204⟩ => apR 7 (l := s5024.2.2.1) (m := ([x5119] : List Request)) T4.E64 rfl rfl rfl rfl rfl rfl hm5203 hR5204 RRequest.one rfl hk5198 fun ad5200 cap5201 css5206 hR5205 => finV (f := fun (q : Option Addr × Nat × List (List Value)) => .slice q.1 ((s5024.2.2.1 ++ ([x5119] : List Request)).length) q.2.1) (G := (fun (q : Option Addr × Nat × List (List Value)) K => Rows (RRequest) 5 K q.2.2 (s5024.2.2.1 ++ ([x5119] : List Request)))) (σ1 := fun q => [(8, Own.list ad5025 cap5026 3 1 (encI .i64) s5024.2.1), (7, Own.rows q.1 q.2.1 63 5 q.2.2 (s5024.2.2.1 ++ ([x5119] : List Request))), (4, Own.list (some ⟨b5116, 0, none⟩) cap1196 3 1 (encI .i64) t1886), (2, cel b1158 133 [.slice ad10 r_2.words.length cap11, .int .i64 r_2.out, .int .i64 r_2.within, .map b1129, .slice ad1126 r1117.1.swaps.length cap1127, .slice ad5027 s5024.2.2.1.length cap5028, .slice ad5025 s5024.2.1.length cap5026, .slice (some ⟨b1156, 0, none⟩) ((List.replicate requests.length (0 : Int)).length) requests.length]), (1, Own.list (some ⟨b1156, 0, none⟩) requests.length 31 1 (encI .i64) (s5024.2.2.2.set x5113.toNat r5131))]) (ad5200, cap5201, css5206) (fun _ _ _ h x => x.mono (RRequest.mono) h) hR5205)) ?_
            rintro ⟨ad5200, cap5201, css5206⟩
            refine DC.det (fun τ => τ = [(8, Own.list ad5025 cap5026 3 1 (encI .i64) s5024.2.1), (7, Own.rows ad5200 cap5201 63 5 css5206 (s5024.2.2.1 ++ ([x5119] : List Request))), (4, Own.list (some ⟨b5116, 0, none⟩) cap1196 3 1 (encI .i64) t1886), (2, cel b1158 133 [.slice ad10 r_2.words.length cap11, .int .i64 r_2.out, .int .i64 r_2.within, .map b1129, .slice ad1126 r1117.1.swaps.length cap1127, .slice ad5027 s5024.2.2.1.length cap5028, .slice ad5025 s5024.2.1.length cap5026, .slice (some ⟨b1156, 0, none⟩) ((List.replicate requests.length (0 : Int)).length) requests.length]), (1, Own.list (some ⟨b1156, 0, none⟩) requests.length 31 1 (encI .i64) (s5024.2.2.2.set x5113.toNat r5131))] ∨ τ = [(8, Own.list ad5025 cap5026 3 1 (encI .i64) s5024.2.1), (7, Own.rows ad5027 cap5028 63 5 css5029 s5024.2.2.1), (4, Own.list (some ⟨b5116, 0, none⟩) cap1196 3 1 (encI .i64) t1886), (2, cel b1158 133 [.slice ad10 r_2.words.length cap11, .int .i64 r_2.out, .int .i64 r_2.within, .map b1129, .slice ad1126 r1117.1.swaps.length cap1127, .slice ad5027 s5024.2.2.1.length cap5028, .slice ad5025 s5024.2.1.length cap5026, .slice (some ⟨b1156, 0, none⟩) ((List.replicate requests.length (0 : Int)).length) requests.length]), (1, Own.list (some ⟨b1156, 0, none⟩) requests.length 31 1 (encI .i64) (s5024.2.2.2.set x5113.toNat r5131))]) rfl (.inl rfl) (by kernel_rfl) ⟨.inl (.inr (rfl)), tv⟩ rfl rfl (fun τ hτ a w K hS hA hF => by rcases hτ with rfl | rfl <;> exact TG.pa hS hA (m1 rfl fin1)) ?_
            refine DC.det (fun τ => τ = [(8, Own.list ad5025 cap5026 3 1 (encI .i64) s5024.2.1), (7, Own.rows ad5200 cap5201 63 5 css5206 (s5024.2.2.1 ++ ([x5119] : List Request))), (4, Own.list (some ⟨b5116, 0, none⟩) cap1196 3 1 (encI .i64) t1886), (2, cel b1158 133 [.slice ad10 r_2.words.length cap11, .int .i64 r_2.out, .int .i64 r_2.within, .map b1129, .slice ad1126 r1117.1.swaps.length cap1127, .slice ad5027 s5024.2.2.1.length cap5028, .slice ad5025 s5024.2.1.length cap5026, .slice (some ⟨b1156, 0, none⟩) ((List.replicate requests.length (0 : Int)).length) requests.length]), (1, Own.list (some ⟨b1156, 0, none⟩) requests.length 31 1 (encI .i64) (s5024.2.2.2.set x5113.toNat r5131))] ∨ τ = [(8, Own.list ad5025 cap5026 3 1 (encI .i64) s5024.2.1), (7, Own.rows ad5027 cap5028 63 5 css5029 s5024.2.2.1), (4, Own.list (some ⟨b5116, 0, none⟩) cap1196 3 1 (encI .i64) t1886), (2, cel b1158 133 [.slice ad10 r_2.words.length cap11, .int .i64 r_2.out, .int .i64 r_2.within, .map b1129, .slice ad1126 r1117.1.swaps.length cap1127, .slice ad5027 s5024.2.2.1.length cap5028, .slice ad5025 s5024.2.1.length cap5026, .slice (some ⟨b1156, 0, none⟩) ((List.replicate requests.length (0 : Int)).length) requests.length]), (1, Own.list (some ⟨b1156, 0, none⟩) requests.length 31 1 (encI .i64) (s5024.2.2.2.set x5113.toNat r5131))]) rfl (.inl rfl) (by kernel_rfl) ⟨.inl (.inr (rfl)), tv⟩ rfl rfl (fun τ hτ a w K hS hA hF => by rcases hτ with rfl | rfl <;> exact TG.pa hS hA (nl rfl rfl fin1)) ?_
            refine DC.det (fun τ => τ = [(8, Own.list ad5025 cap5026 3 1 (encI .i64) s5024.2.1), (7, Own.rows ad5200 cap5201 63 5 css5206 (s5024.2.2.1 ++ ([x5119] : List Request))), (4, Own.list (some ⟨b5116, 0, none⟩) cap1196 3 1 (encI .i64) t1886), (2, cel b1158 133 [.slice ad10 r_2.words.length cap11, .int .i64 r_2.out, .int .i64 r_2.within, .map b1129, .slice ad1126 r1117.1.swaps.length cap1127, .slice ad5027 s5024.2.2.1.length cap5028, .slice ad5025 s5024.2.1.length cap5026, .slice (some ⟨b1156, 0, none⟩) ((List.replicate requests.length (0 : Int)).length) requests.length]), (1, Own.list (some ⟨b1156, 0, none⟩) requests.length 31 1 (encI .i64) (s5024.2.2.2.set x5113.toNat r5131))] ∨ τ = [(8, Own.list ad5025 cap5026 3 1 (encI .i64) s5024.2.1), (7, Own.rows ad5027 cap5028 63 5 css5029 s5024.2.2.1), (4, Own.list (some ⟨b5116, 0, none⟩) cap1196 3 1 (encI .i64) t1886), (2, cel b1158 133 [.slice ad10 r_2.words.length cap11, .int .i64 r_2.out, .int .i64 r_2.within, .map b1129, .slice ad1126 r1117.1.swaps.length cap1127, .slice ad5027 s5024.2.2.1.length cap5028, .slice ad5025 s5024.2.1.length cap5026, .slice (some ⟨b1156, 0, none⟩) ((List.replicate requests.length (0 : Int)).length) requests.length]), (1, Own.list (some ⟨b1156, 0, none⟩) requests.length 31 1 (encI .i64) (s5024.2.2.2.set x5113.toNat r5131))]) rfl (.inl rfl) (by kernel_rfl) ⟨.inl (.inr (rfl)), tv⟩ rfl rfl (fun τ hτ a w K hS hA hF => by rcases hτ with rfl | rfl <;> exact TG.pa hS hA (fb 6 U133 rfl rfl rfl rfl Z86 fin1)) ?_
            refine DC.det (fun τ => τ = [(8, Own.list ad5025 cap5026 3 1 (encI .i64) s5024.2.1), (7, Own.rows ad5200 cap5201 63 5 css5206 (s5024.2.2.1 ++ ([x5119] : List Request))), (4, Own.list (some ⟨b5116, 0, none⟩) cap1196 3 1 (encI .i64) t1886), (2, cel b1158 133 [.slice ad10 r_2.words.length cap11, .int .i64 r_2.out, .int .i64 r_2.within, .map b1129, .slice ad1126 r1117.1.swaps.length cap1127, .slice ad5027 s5024.2.2.1.length cap5028, .slice ad5025 s5024.2.1.length cap5026, .slice (some ⟨b1156, 0, none⟩) ((List.replicate requests.length (0 : Int)).length) requests.length]), (1, Own.list (some ⟨b1156, 0, none⟩) requests.length 31 1 (encI .i64) (s5024.2.2.2.set x5113.toNat r5131))] ∨ τ = [(8, Own.list ad5025 cap5026 3 1 (encI .i64) s5024.2.1), (7, Own.rows ad5027 cap5028 63 5 css5029 s5024.2.2.1), (4, Own.list (some ⟨b5116, 0, none⟩) cap1196 3 1 (encI .i64) t1886), (2, cel b1158 133 [.slice ad10 r_2.words.length cap11, .int .i64 r_2.out, .int .i64 r_2.within, .map b1129, .slice ad1126 r1117.1.swaps.length cap1127, .slice ad5027 s5024.2.2.1.length cap5028, .slice ad5025 s5024.2.1.length cap5026, .slice (some ⟨b1156, 0, none⟩) ((List.replicate requests.length (0 : Int)).length) requests.length]), (1, Own.list (some ⟨b1156, 0, none⟩) requests.length 31 1 (encI .i64) (s5024.2.2.2.set x5113.toNat r5131))]) rfl (.inl rfl) (by kernel_rfl) ⟨.inl (.inr (rfl)), tv⟩ rfl rfl (fun τ hτ a w K hS hA hF => by rcases hτ with rfl | rfl <;> exact TG.pa hS hA (ld G86 rfl rfl (((sO 2 rfl).drop 6).take 1) rfl fin1)) ?_
            refine DC.det (fun τ => τ = [(8, Own.list ad5025 cap5026 3 1 (encI .i64) s5024.2.1), (7, Own.rows ad5200 cap5201 63 5 css5206 (s5024.2.2.1 ++ ([x5119] : List Request))), (4, Own.list (some ⟨b5116, 0, none⟩) cap1196 3 1 (encI .i64) t1886), (2, cel b1158 133 [.slice ad10 r_2.words.length cap11, .int .i64 r_2.out, .int .i64 r_2.within, .map b1129, .slice ad1126 r1117.1.swaps.length cap1127, .slice ad5027 s5024.2.2.1.length cap5028, .slice ad5025 s5024.2.1.length cap5026, .slice (some ⟨b1156, 0, none⟩) ((List.replicate requests.length (0 : Int)).length) requests.length]), (1, Own.list (some ⟨b1156, 0, none⟩) requests.length 31 1 (encI .i64) (s5024.2.2.2.set x5113.toNat r5131))] ∨ τ = [(8, Own.list ad5025 cap5026 3 1 (encI .i64) s5024.2.1), (7, Own.rows ad5027 cap5028 63 5 css5029 s5024.2.2.1), (4, Own.list (some ⟨b5116, 0, none⟩) cap1196 3 1 (encI .i64) t1886), (2, cel b1158 133 [.slice ad10 r_2.words.length cap11, .int .i64 r_2.out, .int .i64 r_2.within, .map b1129, .slice ad1126 r1117.1.swaps.length cap1127, .slice ad5027 s5024.2.2.1.length cap5028, .slice ad5025 s5024.2.1.length cap5026, .slice (some ⟨b1156, 0, none⟩) ((List.replicate requests.length (0 : Int)).length) requests.length]), (1, Own.list (some ⟨b1156, 0, none⟩) requests.length 31 1 (encI .i64) (s5024.2.2.2.set x5113.toNat r5131))]) rfl (.inl rfl) (by kernel_rfl) ⟨.inl (.inr (rfl)), tv⟩ rfl rfl (fun τ hτ a w K hS hA hF => by rcases hτ with rfl | rfl <;> exact TG.pa hS hA (m1 rfl fin1)) ?_
            refine DC.und (α := Option Addr × Nat) (none, 0) (fun q => .slice q.1 1 q.2) (fun (q : Option Addr × Nat) K => Sl (Flat (encI .i64)) 1 K q.1 q.2 ([x5113] : List Int)) (fun τ => τ = [(8, Own.list ad5025 cap5026 3 1 (encI .i64) s5024.2.1), (7, Own.rows ad5200 cap5201 63 5 css5206 (s5024.2.2.1 ++ ([x5119] : List Request))), (4, Own.list (some ⟨b5116, 0, none⟩) cap1196 3 1 (encI .i64) t1886), (2, cel b1158 133 [.slice ad10 r_2.words.length cap11, .int .i64 r_2.out, .int .i64 r_2.within, .map b1129, .slice ad1126 r1117.1.swaps.length cap1127, .slice ad5027 s5024.2.2.1.length cap5028, .slice ad5025 s5024.2.1.length cap5026, .slice (some ⟨b1156, 0, none⟩) ((List.replicate requests.length (0 : Int)).length) requests.length]), (1, Own.list (some ⟨b1156, 0, none⟩) requests.length 31 1 (encI .i64) (s5024.2.2.2.set x5113.toNat r5131))] ∨ τ = [(8, Own.list ad5025 cap5026 3 1 (encI .i64) s5024.2.1), (7, Own.rows ad5027 cap5028 63 5 css5029 s5024.2.2.1), (4, Own.list (some ⟨b5116, 0, none⟩) cap1196 3 1 (encI .i64) t1886), (2, cel b1158 133 [.slice ad10 r_2.words.length cap11, .int .i64 r_2.out, .int .i64 r_2.within, .map b1129, .slice ad1126 r1117.1.swaps.length cap1127, .slice ad5027 s5024.2.2.1.length cap5028, .slice ad5025 s5024.2.1.length cap5026, .slice (some ⟨b1156, 0, none⟩) ((List.replicate requests.length (0 : Int)).length) requests.length]), (1, Own.list (some ⟨b1156, 0, none⟩) requests.length 31 1 (encI .i64) (s5024.2.2.2.set x5113.toNat r5131))]) rfl (.inl rfl) (by kernel_rfl) ⟨.inl (.inr (rfl)), tv⟩ (fun _ _ _ h x => x.mono (Flat.mono _) h) (by kernel_rfl) rfl rfl (fun τ hτ a w K hS hA hF => by rcases hτ with rfl | rfl <;> exact TG.pa hS hA (bS (cs := [.int .i64 x5113]) T4.E86 rfl rfl rfl rfl fun q5208 K5209 hq5210 hK5211 => by
              have hl5212 : Sl (Flat (encI .i64)) 1 K5209 (some q5208) 1 ([x5113] : List Int) := Sl.litR (css := [[.int .i64 x5113]]) (l := ([x5113] : List Int)) ⟨⟨rfl, rfl, rfl⟩, tv⟩ hq5210 hK5211 rfl
              have := hl5212.len
              exact finU (f := fun q => .slice q.1 1 q.2) (G := (fun (q : Option Addr × Nat) K => Sl (Flat (encI .i64)) 1 K q.1 q.2 ([x5113] : List Int))) (_, _) (fun _ _ _ h x => x.mono (Flat.mono _) h) hl5212)) ?_
            rintro ⟨ad5214, cap5215⟩
            refine DC.turn (α := Option Addr × Nat) (none, 0) (fun q => .slice q.1 ((s5024.2.1 ++ ([x5113] : List Int)).length) q.2) (fun _ _ => True) (fun q => [(8, Own.list q.1 q.2 3 1 (encI .i64) (s5024.2.1 ++ ([x5113] : List Int))), (7, Own.rows ad5200 cap5201 63 5 css5206 (s5024.2.2.1 ++ ([x5119] : List Request))), (4, Own.list (some ⟨b5116, 0, none⟩) cap1196 3 1 (encI .i64) t1886), (2, cel b1158 133 [.slice ad10 r_2.words.length cap11, .int .i64 r_2.out, .int .i64 r_2.within, .map b1129, .slice ad1126 r1117.1.swaps.length cap1127, .slice ad5027 s5024.2.2.1.length cap5028, .slice ad5025 s5024.2.1.length cap5026, .slice (some ⟨b1156, 0, none⟩) ((List.replicate requests.length (0 : Int)).length) requests.length]), (1, Own.list (some ⟨b1156, 0, none⟩) requests.length 31 1 (encI .i64) (s5024.2.2.2.set x5113.toNat r5131))]) rfl (fun _ _ _ _ h => h) (by kernel_rfl) rfl rfl (fun a w K hS hA hF => TG.pa hS hA (apS 8 (enc := encI .i64) (l := s5024.2.1) (m := ([x5113] : List Int)) T4.E86 rfl rfl rfl rfl rfl rfl (hF.1 rfl) 0 rfl (fun _ => rfl) (fun _ => rfl) rfl hk5216 fun ad5218 cap5219 => finT (f := fun q => .slice q.1 ((s5024.2.1 ++ ([x5113] : List Int)).length) q.2) (G := fun _ _ => True) (σ1 := fun q => [(8, Own.list q.1 q.2 3 1 (encI .i64) (s5024.2.1 ++ ([x5113] : List Int))), (7, Own.rows ad5200 cap5201 63 5 css5206 (s5024.2.2.1 ++ ([x5119] : List Request))), (4, Own.list (some ⟨b5116, 0, none⟩) cap1196 3 1 (encI .i64) t1886), (2, cel b1158 133 [.slice ad10 r_2.words.length cap11, .int .i64 r_2.out, .int .i64 r_2.within, .map b1129, .slice ad1126 r1117.1.swaps.length cap1127, .slice ad5027 s5024.2.2.1.length cap5028, .slice ad5025 s5024.2.1.length cap5026, .slice (some ⟨b1156, 0, none⟩) ((List.replicate requests.length (0 : Int)).length) requests.length]), (1, Own.list (some ⟨b1156, 0, none⟩) requests.length 31 1 (encI .i64) (s5024.2.2.2.set x5113.toNat r5131))]) (_, _) tv)) ?_
            rintro ⟨ad5218, cap5219⟩
            refine DC.nil fun K5220 hF => ?_
            obtain ⟨_, hu5213, hu5207, hu5195, _⟩ := hF
            have := hu5195.len
            have := hu5213.len
            refine nl rfl rfl (fb 5 U133 rfl rfl rfl rfl Z64 (sto 2 (cs := [.slice ad5200 ((s5024.2.2.1 ++ ([x5119] : List Request)).length) cap5201]) Z64 rfl rfl rfl rfl rfl rfl rfl (nl rfl rfl (fb 6 U133 rfl rfl rfl rfl Z86 (sto 2 (cs := [.slice ad5218 ((s5024.2.1 ++ ([x5113] : List Int)).length) cap5219]) Z86 rfl rfl rfl rfl rfl rfl rfl (on ?_))))))
            cases hr5217
            intro a w hS hA
            exact ⟨ad5218, cap5219, ad5200, cap5201, css5206, K5220, hS, hA.cut ⟨rfl, rfl, rfl, rfl, rfl, tv⟩, hu5207⟩
           ·have hr5221 := if_n hc5187 hx5178
            refine sk ?_
            cases hr5221
            intro a w hS hA
            exact ⟨ad5025, cap5026, ad5027, cap5028, css5029, K5030, hS.selH [1, 0, 1, 2, 3, 4, 5, 6, 7, 8, 9, 10] rfl, hA.cut ⟨rfl, rfl, rfl, rfl, rfl, tv⟩, hR5031⟩
          ·rintro a w ⟨ad5180, cap5181, ad5182, cap5183, css5184, K5185, hS, hA, hR5186⟩
           refine TG.ap ?_ hS hA
           refine rg (adI rfl rfl rfl (by omega) (m1 rfl (on ?_)))
           cases hr5179
           intro a w hS hA
           exact ⟨_, hz5034, ad5180, cap5181, ad5182, cap5183, css5184, K5185, hS.selH [0, 3, 4, 5, 6, 7, 8, 9, 10, 11] rfl, hA.cut ⟨rfl, rfl, rfl, rfl, rfl, tv⟩, hR5186, hln5138⟩
         ·have hr5222 := if_n hc5039 hr5033
          refine xt rfl ?_
          cases hr5222
          obtain rfl := Fin.out hz5034
          intro a w hS hA
          exact ⟨ad5025, cap5026, ad5027, cap5028, css5029, K5030, hS, hA.cut ⟨rfl, tv⟩, hR5031, hln5032⟩
       ·rintro a w ⟨ad5016, cap5017, ad5018, cap5019, css5020, K5021, hS, hA, hR5022, hln5023⟩
        refine TG.ap ?_ hS hA
        refine sq (rg (m1 rfl (a1 rfl (a1 rfl (on (rt_ (TG.del 4 (TG.as 2 (z := cel b1158 133 [.slice ad10 r_2.words.length cap11, .int .i64 r_2.out, .int .i64 r_2.within, .map b1129, .slice ad1126 r1117.1.swaps.length cap1127, .slice ad5018 e5013.2.1.length cap5019, .slice ad5016 e5013.1.length cap5017, .slice (some ⟨b1156, 0, none⟩) e5013.2.2.length requests.length]) rfl (by rw [hln5023]) ?_))))))))
        cases hr5015
        intro a w hS hA
        refine ret2 hA rfl rfl rfl ?_
        exact ⟨_, rfl, .inr (⟨_, rfl, b1158, ad5016, cap5017, ad5018, cap5019, css5020, K5021, ad10, cap11, H, .map b1129, K1120, ad1126, cap1127, K1120, (some ⟨b1156, 0, none⟩), requests.length, rfl, hS.selH [0, 9, 3, 3, 7, 8, 9] rfl, hR5022, hl12, hm1125, hl1128⟩)⟩
 ·rintro a w v hA (⟨t1085, rfl, rfl, hS⟩ | ⟨t1086, rfl, b1087, ad1088, cap1089, ad1090, cap1091, css1092, K1093, ad1095, cap1096, K1097, mp1099, K1100, ad1102, cap1103, K1104, ad1106, cap1107, rfl, hS, hR1094, hl1098, hm1101, hl1105⟩)
  ·refine putK rfl hA hS (m1 rfl (ex rfl rfl rfl (ex rfl rfl rfl (a1 rfl (a1 rfl (on (sq (sq (rg (m1 rfl (neI rfl rfl rfl ?_)))))))))))
   refine on ?_
   refine ci rfl (fun hc5226 => ?_) (fun hc5226 => ?_)
   ·have hr5227 := if_p hc5226 hr1084
    refine sq (rg (m1 rfl (a1 rfl (a1 rfl (on (rt_ ?_))))))
    cases hr5227
    intro a w hS hA
    refine ret2 hA rfl rfl rfl ?_
    exact ⟨⟨_, _, rfl, (Sl.nil _ _ _ _ _ (by decide))⟩, hS.ext⟩
   ·have hr5228 := if_n hc5226 hr1084
    refine sk (sq (rg (m1 rfl ?_)))
    cases hr5228
  ·have := hl1098.len
   have := hl1105.len
   refine putK rfl hA hS (m1 rfl (ex rfl rfl rfl (ex rfl rfl rfl (a1 rfl (a1 rfl (on (sq (sq (rg (m1 rfl (neI rfl rfl rfl ?_)))))))))))
   refine on (cF rfl ((rfl : decide ((0 : Int) ≠ (0 : Int)) = false)) (sk (sq (rg (m1 rfl (nl rfl rfl (fb 7 U133 rfl rfl rfl rfl Z59 (ld G59 rfl rfl ((sO 2 rfl).drop 7) rfl (a1 rfl (a1 rfl (on ?_)))))))))))
   refine rt_ ?_
   cases hr1084
   intro a w hS hA
   refine ret2 hA rfl rfl rfl ?_
   exact ⟨⟨_, _, rfl, (hS.listOut 1 rfl (fun _ => rfl))⟩, hS.ext⟩

theorem w41 {M : Prop} {W : World} {H : Hp} (hH : H.le (hp W)) {ad_a_0 : Option Addr} {cap_a_0 : Nat} {a_0 : List Mark} (h_a_0 : Sl (Flat encMark) 2 H ad_a_0 cap_a_0 a_0) {ad_b_1 : Option Addr} {cap_b_1 : Nat} {b_1 : List Mark} (h_b_1 : Sl (Flat encMark) 2 H ad_b_1 cap_b_1 b_1) {r : Bool} (hr : m41 a_0 b_1 = some r) : Calls Tryz.prog 41 [.slice ad_a_0 a_0.length cap_a_0, .slice ad_b_1 b_1.length cap_b_1].toArray W (RetS M W (.bool r)) := by
 have := h_a_0.len
 have := h_b_1.len
 unfold m41 at hr
 refine enterG (M := M) Tryz.func41 rfl Tryz.ntmps41 rfl hH ?_
 refine sq (rg (a1 rfl (on (sq (sq (rg (m1 rfl (lnL U49 rfl rfl (m1 rfl (lnL U44 rfl rfl (neI rfl rfl rfl ?_)))))))))))
 refine on ?_
 refine ci rfl (fun hc4 => ?_) (fun hc4 => ?_)
 ·have hr5 := if_p hc4 hr
  refine sq (rg (a1 rfl (on (rt_ ?_))))
  cases hr5
  intro a w hS hA
  refine ret1 hA rfl rfl ?_
  exact ⟨rfl, hS.ext⟩
 ·have hr6 := if_n hc4 hr
  refine sk (sq (sq (rg (a1 rfl (on ?_)))))
  obtain ⟨e36, hl37, hr38⟩ := bd_some hr6
  refine jn (fun a w => ∃ t39, e36 = .inl t39 ∧ St M W H [H] [] w ∧ Has [] 41 a []) ?_ ?_
  ·refine bk ?_
   refine lp hl37 (fun s40 a w => St M W H [H] [] w ∧ Has [] 41 a [(0, .slice ad_a_0 a_0.length cap_a_0), (1, .slice ad_b_1 b_1.length cap_b_1), (5, .int .i64 (s40 : Int))]) ?_ ?_
   ·exact cu ⟨rfl, rfl, rfl, tv⟩
   ·rintro j s40 y43 hr41 hz42 a w ⟨hS, hA⟩
    refine TG.ap ?_ hS hA
    unfold m41_1 at hr41
    refine sq (sq (rg (m1 rfl (m1 rfl (lnL U49 rfl rfl (ltI rfl rfl rfl (on ?_)))))))
    refine ci rfl (fun hc47 => ?_) (fun hc47 => ?_)
    ·have hr48 := if_p hc47 hr41
     refine sk (sq (bk (sq ?_)))
     obtain ⟨t95, hx96, hr97⟩ := bd_some hr48
     refine jn (fun a w => St M W H [H] [] w ∧ Has [] 41 a [(0, .slice ad_a_0 a_0.length cap_a_0), (1, .slice ad_b_1 b_1.length cap_b_1), (5, .int .i64 (s40 : Int)), (40, .bool t95)]) ?_ ?_
     ·obtain ⟨x98, hx99, hr100⟩ := bd_some hx96
      obtain ⟨p101, rfl⟩ := h_a_0.adr hx99
      obtain ⟨cs102, hcs103, hq104, hr105⟩ := h_a_0.at hx99
      obtain rfl := hr105
      obtain ⟨x106, hx107, hr108⟩ := bd_some hr100
      obtain ⟨p109, rfl⟩ := h_b_1.adr hx107
      obtain ⟨cs110, hcs111, hq112, hr113⟩ := h_b_1.at hx107
      obtain rfl := hr113
      by_cases hb114 : x98.kind ≠ x106.kind
      ·have hr115 := if_p hb114 hr108
       refine drG 22 mixed (by kernel_rfl) rfl (dt rfl (m1 rfl fin1) (dt rfl (m1 rfl fin1) (dt rfl (iaP U49 Z79 rfl rfl rfl rfl (lt_of hx99) fin1) (dt rfl (fb 0 U79 rfl rfl rfl rfl Z5 fin1) (dt rfl (ld G5 rfl rfl ((sS 1 rfl hq104).take 1) rfl fin1) (dt rfl (m1 rfl fin1) (dt rfl (m1 rfl fin1) (dt rfl (iaP U44 Z113 rfl rfl rfl rfl (lt_of hx107) fin1) (dt rfl (fb 0 U113 rfl rfl rfl rfl Z5 fin1) (dt rfl (ld G5 rfl rfl ((sS 1 rfl hq112).take 1) rfl fin1) (dt rfl (neI rfl rfl rfl fin1) ?_)))))))))))
       refine dt rfl (m1 rfl fin1) (dt rfl (gf' hb114 rfl fin1) (dt rfl (gf' hb114 rfl fin1) (dt rfl (gf' hb114 rfl fin1) (dt rfl (gf' hb114 rfl fin1) (dt rfl (gf' hb114 rfl fin1) (dt rfl (gf' hb114 rfl fin1) (dt rfl (gf' hb114 rfl fin1) (dt rfl (gf' hb114 rfl fin1) (dt rfl (gf' hb114 rfl fin1) (dt rfl (gf' hb114 rfl fin1) (DF.nil fun K116 hF => ?_)))))))))))
       refine gf' hb114 rfl (pt hb114 rfl rfl (on ?_))
       cases hr115
       intro a w hS hA
       exact ⟨hS.selH [1] rfl, hA.cut ⟨rfl, rfl, rfl, rfl, tv⟩⟩
      ·have hr117 := if_n hb114 hr108
       refine drG 22 mixed (by kernel_rfl) rfl (dt rfl (m1 rfl fin1) (dt rfl (m1 rfl fin1) (dt rfl (iaP U49 Z79 rfl rfl rfl rfl (lt_of hx99) fin1) (dt rfl (fb 0 U79 rfl rfl rfl rfl Z5 fin1) (dt rfl (ld G5 rfl rfl ((sS 1 rfl hq104).take 1) rfl fin1) (dt rfl (m1 rfl fin1) (dt rfl (m1 rfl fin1) (dt rfl (iaP U44 Z113 rfl rfl rfl rfl (lt_of hx107) fin1) (dt rfl (fb 0 U113 rfl rfl rfl rfl Z5 fin1) (dt rfl (ld G5 rfl rfl ((sS 1 rfl hq112).take 1) rfl fin1) (dt rfl (neI rfl rfl rfl fin1) ?_)))))))))))
       refine dt rfl (m1 rfl fin1) (dt rfl (gt' hb114 rfl (m1 rfl fin1)) (dt rfl (gt' hb114 rfl (m1 rfl fin1)) (dt rfl (gt' hb114 rfl (iaP U49 Z79 rfl rfl rfl rfl (lt_of hx99) fin1)) (dt rfl (gt' hb114 rfl (fb 1 U79 rfl rfl rfl rfl Z3 fin1)) (dt rfl (gt' hb114 rfl (ld G3 rfl rfl ((sS 1 rfl hq104).drop 1) rfl fin1)) (dt rfl (gt' hb114 rfl (m1 rfl fin1)) (dt rfl (gt' hb114 rfl (m1 rfl fin1)) (dt rfl (gt' hb114 rfl (iaP U44 Z113 rfl rfl rfl rfl (lt_of hx107) fin1)) (dt rfl (gt' hb114 rfl (fb 1 U113 rfl rfl rfl rfl Z3 fin1)) (dt rfl (gt' hb114 rfl (ld G3 rfl rfl ((sS 1 rfl hq112).drop 1) rfl fin1)) (DF.nil fun K118 hF => ?_)))))))))))
       refine gt' hb114 rfl (neI rfl rfl rfl (pf hb114 rfl rfl (on ?_)))
       cases hr117
       intro a w hS hA
       exact ⟨hS.selH [1] rfl, hA.cut ⟨rfl, rfl, rfl, rfl, tv⟩⟩
     ·rintro a w ⟨hS, hA⟩
      refine TG.ap ?_ hS hA
      refine cb rfl (fun hc122 => ?_) (fun hc122 => ?_)
      ·have hr123 := if_p hc122 hr97
       refine sq (rg (a1 rfl (on (rt_ ?_))))
       cases hr123
       obtain rfl := Fin.out hz42
       cases hr38
       intro a w hS hA
       refine ret1 hA rfl rfl ?_
       exact ⟨rfl, hS.ext⟩
      ·have hr124 := if_f hc122 hr97
       refine sk (rg (m1 rfl (adI rfl rfl rfl (by omega) (a1 rfl (on ?_)))))
       cases hr124
       intro a w hS hA
       exact ⟨_, hz42, hS, hA.cut ⟨rfl, rfl, rfl, tv⟩⟩
    ·have hr125 := if_n hc47 hr41
     refine xt rfl ?_
     cases hr125
     obtain rfl := Fin.out hz42
     intro a w hS hA
     exact ⟨_, rfl, hS, hA.cut tv⟩
  ·rintro a w ⟨t39, rfl, hS, hA⟩
   refine TG.ap ?_ hS hA
   refine sq (rg (a1 rfl (on (rt_ ?_))))
   cases hr38
   intro a w hS hA
   refine ret1 hA rfl rfl ?_
   exact ⟨rfl, hS.ext⟩

theorem w50 {M : Prop} {W : World} {H : Hp} (hH : H.le (hp W)) {ad_a_0 : Option Addr} {cap_a_0 : Nat} {a_0 : List Int} (h_a_0 : Sl (Flat (encI .i64)) 1 H ad_a_0 cap_a_0 a_0) {ad_b_1 : Option Addr} {cap_b_1 : Nat} {b_1 : List Int} (h_b_1 : Sl (Flat (encI .i64)) 1 H ad_b_1 cap_b_1 b_1) {r : Bool} (hr : m50 a_0 b_1 = some r) : Calls Tryz.prog 50 [.slice ad_a_0 a_0.length cap_a_0, .slice ad_b_1 b_1.length cap_b_1].toArray W (RetS M W (.bool r)) := by
 have := h_a_0.len
 have := h_b_1.len
 unfold m50 at hr
 refine enterG (M := M) Tryz.func50 rfl Tryz.ntmps50 rfl hH ?_
 refine sq (rg (a1 rfl (on (sq (sq (rg (m1 rfl (lnL U59 rfl rfl (m1 rfl (lnL U59 rfl rfl (neI rfl rfl rfl ?_)))))))))))
 refine on ?_
 refine ci rfl (fun hc4 => ?_) (fun hc4 => ?_)
 ·have hr5 := if_p hc4 hr
  refine sq (rg (a1 rfl (on (rt_ ?_))))
  cases hr5
  intro a w hS hA
  refine ret1 hA rfl rfl ?_
  exact ⟨rfl, hS.ext⟩
 ·have hr6 := if_n hc4 hr
  refine sk (sq (sq (rg (a1 rfl (on ?_)))))
  obtain ⟨e31, hl32, hr33⟩ := bd_some hr6
  refine jn (fun a w => ∃ t34, e31 = .inl t34 ∧ St M W H [H] [] w ∧ Has [] 26 a []) ?_ ?_
  ·refine bk ?_
   refine lp hl32 (fun s35 a w => St M W H [H] [] w ∧ Has [] 26 a [(0, .slice ad_a_0 a_0.length cap_a_0), (1, .slice ad_b_1 b_1.length cap_b_1), (5, .int .i64 (s35 : Int))]) ?_ ?_
   ·exact cu ⟨rfl, rfl, rfl, tv⟩
   ·rintro j s35 y38 hr36 hz37 a w ⟨hS, hA⟩
    refine TG.ap ?_ hS hA
    unfold m50_1 at hr36
    refine sq (sq (rg (m1 rfl (m1 rfl (lnL U59 rfl rfl (ltI rfl rfl rfl (on ?_)))))))
    refine ci rfl (fun hc42 => ?_) (fun hc42 => ?_)
    ·have hr43 := if_p hc42 hr36
     refine sk (sq (bk (sq ?_)))
     obtain ⟨x64, hx65, hr66⟩ := bd_some hr43
     obtain ⟨p67, rfl⟩ := h_a_0.adr hx65
     obtain ⟨cs68, hcs69, hq70, hr71⟩ := h_a_0.at hx65
     obtain rfl := hr71
     obtain ⟨x72, hx73, hr74⟩ := bd_some hr66
     obtain ⟨p75, rfl⟩ := h_b_1.adr hx73
     obtain ⟨cs76, hcs77, hq78, hr79⟩ := h_b_1.at hx73
     obtain rfl := hr79
     refine drG 8 mixed (by kernel_rfl) rfl (dt rfl (m1 rfl fin1) (dt rfl (m1 rfl fin1) (dt rfl (iaP U59 Z31 rfl rfl rfl rfl (lt_of hx65) fin1) (dt rfl (ld G31 rfl rfl (sS 1 rfl hq70) rfl fin1) (dt rfl (m1 rfl fin1) (dt rfl (m1 rfl fin1) (dt rfl (iaP U59 Z31 rfl rfl rfl rfl (lt_of hx73) fin1) (dt rfl (ld G31 rfl rfl (sS 1 rfl hq78) rfl fin1) (DF.nil fun K80 hF => (neI rfl rfl rfl (on ?_)))))))))))
     refine ci rfl (fun hc84 => ?_) (fun hc84 => ?_)
     ·have hr85 := if_p hc84 hr74
      refine sq (rg (a1 rfl (on (rt_ ?_))))
      cases hr85
      obtain rfl := Fin.out hz37
      cases hr33
      intro a w hS hA
      refine ret1 hA rfl rfl ?_
      exact ⟨rfl, hS.ext⟩
     ·have hr86 := if_n hc84 hr74
      refine sk (rg (m1 rfl (adI rfl rfl rfl (by omega) (a1 rfl (on ?_)))))
      cases hr86
      intro a w hS hA
      exact ⟨_, hz37, hS.selH [1] rfl, hA.cut ⟨rfl, rfl, rfl, tv⟩⟩
    ·have hr87 := if_n hc42 hr36
     refine xt rfl ?_
     cases hr87
     obtain rfl := Fin.out hz37
     intro a w hS hA
     exact ⟨_, rfl, hS, hA.cut tv⟩
  ·rintro a w ⟨t34, rfl, hS, hA⟩
   refine TG.ap ?_ hS hA
   refine sq (rg (a1 rfl (on (rt_ ?_))))
   cases hr33
   intro a w hS hA
   refine ret1 hA rfl rfl ?_
   exact ⟨rfl, hS.ext⟩

theorem w17 {M : Prop} {W : World} {H : Hp} (hH : H.le (hp W)) (hg : Gv M H)  {r : Bool} (hr : m17 = some r) : Calls Tryz.prog 17 [].toArray W (RetS M W (.bool r)) := by
 unfold m17 at hr
 refine enterG (M := M) Tryz.func17 rfl Tryz.ntmps17 rfl hH ?_
 refine sq (rg (a1 rfl (on (sq (rg ?_)))))
 obtain ⟨r1, hx2, hr3⟩ := bd_some hr
 refine clK C48 rfl rfl rfl rfl (fun w H hH le => w48 hH  hx2) ?_
 rintro v_ K4 ⟨cs5, ad7, cap8, rfl, hr6, hl9⟩
 have hr10 := hr6
 obtain ⟨ad11, cap12, ad14, cap15, ad17, cap18, rfl, hl13, hl16, hl19⟩ := hr6
 have := hl13.len
 have := hl16.len
 have := hl19.len
 have := hl9.len
 refine m1 rfl (ex rfl rfl rfl (ex rfl rfl rfl (va (cs := [.slice ad11 r1.1.numbers.length cap12, .slice ad14 r1.1.names.length cap15, .slice ad17 r1.1.nots.length cap18]) Tryz.zeroValue36 Z36 rfl rfl rfl rfl rfl rfl rfl rfl fun q20 K21 hK22 => (a1 rfl (on (sq (rg (ldA G36 Z36 rfl rfl (sS 0 rfl hK22) rfl (bS (cs := [.string (bs [83, 109, 121, 116, 104]), .string (bs [100, 105, 100]), .string (bs [110, 111, 116]), .string (bs [112, 97, 121]), .string (bs [116, 101, 110]), .string (bs [48, 48, 55]), .string (bs [56])]) T4.E24 rfl rfl rfl rfl fun q23 K24 hq25 hK26 => ?_)))))))))
 have hl27 : Sl (Flat encS) 1 K24 (some q23) 7 ([[83, 109, 121, 116, 104], [100, 105, 100], [110, 111, 116], [112, 97, 121], [116, 101, 110], [48, 48, 55], [56]] : List Bytes) := Sl.litR (css := [[.string (bs [83, 109, 121, 116, 104])], [.string (bs [100, 105, 100])], [.string (bs [110, 111, 116])], [.string (bs [112, 97, 121])], [.string (bs [116, 101, 110])], [.string (bs [48, 48, 55])], [.string (bs [56])]]) (l := ([[83, 109, 121, 116, 104], [100, 105, 100], [110, 111, 116], [112, 97, 121], [116, 101, 110], [48, 48, 55], [56]] : List Bytes)) ⟨⟨rfl, rfl, rfl⟩, ⟨rfl, rfl, rfl⟩, ⟨rfl, rfl, rfl⟩, ⟨rfl, rfl, rfl⟩, ⟨rfl, rfl, rfl⟩, ⟨rfl, rfl, rfl⟩, ⟨rfl, rfl, rfl⟩, tv⟩ hq25 hK26 rfl
 have := hl27.len
 obtain ⟨r28, hx29, hr30⟩ := bd_some hr3
 refine clK C26 rfl rfl rfl rfl (fun w H hH le => w26 hH (hg.mono (le.at 3 rfl)) r1.1 (RLexicon.mono _ _ _ _ (le.at 2 rfl) hr10) (hl27.mono (Flat.mono _) (le.at 0 rfl)) hx29) ?_
 rintro v_ K31 ⟨ad32, cap33, rfl, hl34⟩
 have := hl34.len
 refine m1 rfl (ex rfl rfl rfl (ex rfl rfl rfl (a1 rfl (a1 rfl (on (sq (rg (ldA G36 Z36 rfl rfl (sS 2 rfl hK22) rfl (m1 rfl (bS (cs := [.string (bs [110, 111, 116]), .string (bs [116, 101, 110])]) T4.E24 rfl rfl rfl rfl fun q35 K36 hq37 hK38 => ?_))))))))))
 have hl39 : Sl (Flat encS) 1 K36 (some q35) 2 ([[110, 111, 116], [116, 101, 110]] : List Bytes) := Sl.litR (css := [[.string (bs [110, 111, 116])], [.string (bs [116, 101, 110])]]) (l := ([[110, 111, 116], [116, 101, 110]] : List Bytes)) ⟨⟨rfl, rfl, rfl⟩, ⟨rfl, rfl, rfl⟩, tv⟩ hq37 hK38 rfl
 have := hl39.len
 refine bS (cs := [.string (bs [110, 101, 118, 101, 114]), .string (bs [49, 50])]) T4.E24 rfl rfl rfl rfl fun q40 K41 hq42 hK43 => ?_
 have hl44 : Sl (Flat encS) 1 K41 (some q40) 2 ([[110, 101, 118, 101, 114], [49, 50]] : List Bytes) := Sl.litR (css := [[.string (bs [110, 101, 118, 101, 114])], [.string (bs [49, 50])]]) (l := ([[110, 101, 118, 101, 114], [49, 50]] : List Bytes)) ⟨⟨rfl, rfl, rfl⟩, ⟨rfl, rfl, rfl⟩, tv⟩ hq42 hK43 rfl
 have := hl44.len
 obtain ⟨r45, hx46, hr47⟩ := bd_some hr30
 refine clS C18 rfl rfl rfl rfl (fun w H hH le => w18 hH (hg.mono (le.at 6 rfl)) r1.1 (RLexicon.mono _ _ _ _ (le.at 5 rfl) hr10) (hl9.mono (Flat.mono _) (le.at 5 rfl)) (hl39.mono (Flat.mono _) (le.at 1 rfl)) (hl44.mono (Flat.mono _) (le.at 0 rfl)) hx46) (m1 rfl (ex rfl rfl rfl (ex rfl rfl rfl (a1 rfl (a1 rfl (on (sq (rg ?_))))))))
 obtain ⟨r48, hx49, hr50⟩ := bd_some hr47
 refine clK C49 rfl rfl rfl rfl (fun w H hH le => w49 hH  hx49) ?_
 rintro v_ K51 ⟨cs52, ad54, cap55, rfl, hr53, hl56⟩
 have hr57 := hr53
 obtain ⟨ad58, cap59, rfl, hl60⟩ := hr53
 have := hl60.len
 have := hl56.len
 refine m1 rfl (ex rfl rfl rfl (ex rfl rfl rfl (va (cs := [.slice ad58 r48.1.words.length cap59, .int .i64 r48.1.out, .int .i64 r48.1.within]) Tryz.zeroValue56 Z56 rfl rfl rfl rfl rfl rfl rfl rfl fun q61 K62 hK63 => (a1 rfl (on (sq (rg (ldA G36 Z36 rfl rfl (sS 6 rfl hK22) rfl (m1 rfl (ldA G56 Z56 rfl rfl (sS 0 rfl hK63) rfl (m1 rfl ?_)))))))))))
 obtain ⟨r64, hx65, hr66⟩ := bd_some hr50
 refine clK C29 rfl rfl rfl rfl (fun w H hH le => w29 hH (hg.mono (le.at 8 rfl)) r1.1 (RLexicon.mono _ _ _ _ (le.at 7 rfl) hr10) (hl9.mono (Flat.mono _) (le.at 7 rfl)) r48.1 (RReport.mono _ _ _ _ (le.at 1 rfl) hr57) (hl56.mono (RRequest.mono) (le.at 1 rfl)) hx65) ?_
 rintro v_ K67 ⟨ad68, cap69, rfl, hl70⟩
 have := hl70.len
 refine m1 rfl (ex rfl rfl rfl (ex rfl rfl rfl (a1 rfl (a1 rfl (on (sq ?_))))))
 obtain ⟨t102, hx103, hr104⟩ := bd_some hr66
 refine jn (fun a w => St M W H [K67, K62, K51, K41, K36, K31, K24, K21, K4, H] [] w ∧ Has [] 69 a [(0, .bool t102)]) ?_ ?_
 ·refine rg (m1 rfl (eqI rfl rfl rfl (m1 rfl ?_)))
  by_cases hb105 : r28.2 = 0
  ·have hr106 := if_p hb105 hx103
   refine gt hb105 rfl (m1 rfl (gt hb105 rfl (bu (cs := [.int .u8 2, .int .i64 0]) T4.B113 rfl rfl rfl (gt hb105 rfl (bu (cs := [.int .u8 3, .int .i64 0]) T4.B113 rfl rfl rfl (gt hb105 rfl (bu (cs := [.int .u8 1, .int .i64 10]) T4.B113 rfl rfl rfl (gt hb105 rfl (bu (cs := [.int .u8 1, .int .i64 8]) T4.B113 rfl rfl rfl (gt hb105 rfl (bS (cs := [.int .u8 2, .int .i64 0, .int .u8 3, .int .i64 0, .int .u8 1, .int .i64 10, .int .u8 1, .int .i64 8]) T4.E44 rfl rfl rfl rfl fun q107 K108 hq109 hK110 => ?_)))))))))))
   have hl111 : Sl (Flat encMark) 2 K108 (some q107) 4 ([(⟨2, 0⟩ : Mark), (⟨3, 0⟩ : Mark), (⟨1, 10⟩ : Mark), (⟨1, 8⟩ : Mark)] : List Mark) := Sl.litR (css := [[.int .u8 2, .int .i64 0], [.int .u8 3, .int .i64 0], [.int .u8 1, .int .i64 10], [.int .u8 1, .int .i64 8]]) (l := ([(⟨2, 0⟩ : Mark), (⟨3, 0⟩ : Mark), (⟨1, 10⟩ : Mark), (⟨1, 8⟩ : Mark)] : List Mark)) ⟨⟨rfl, rfl, rfl⟩, ⟨rfl, rfl, rfl⟩, ⟨rfl, rfl, rfl⟩, ⟨rfl, rfl, rfl⟩, tv⟩ hq109 hK110 rfl
   have := hl111.len
   refine gt hb105 rfl ?_
   obtain ⟨r112, hx113, hr114⟩ := bd_some hr106
   refine clS C41 rfl rfl rfl rfl (fun w H hH le => w41 hH (hl34.mono (Flat.mono _) (le.at 6 rfl)) (hl111.mono (Flat.mono _) (le.at 0 rfl)) hx113) (pt hb105 rfl rfl (m1 rfl ?_))
   rcases Bool.eq_false_or_eq_true (r112) with hb115 | hb115
   ·have hr116 := if_p hb115 hr114
    refine gN rfl rfl (hb115) (m1 rfl (gN rfl rfl (hb115) (eqI rfl rfl rfl (pT rfl rfl (hb115) rfl (m1 rfl ?_)))))
    by_cases hb117 : r45.2 = 0
    ·have hr118 := if_p hb117 hr116
     refine gt hb117 rfl (m1 rfl (gt hb117 rfl (eqI rfl rfl rfl (pt hb117 rfl rfl (m1 rfl ?_)))))
     by_cases hb119 : r45.1 = 0
     ·have hr120 := if_p hb119 hr118
      refine gt hb119 rfl (m1 rfl (gt hb119 rfl (eqI rfl rfl rfl (pt hb119 rfl rfl (m1 rfl ?_)))))
      by_cases hb121 : r64.2 = 0
      ·have hr122 := if_p hb121 hr120
       refine gt hb121 rfl (m1 rfl (gt hb121 rfl (bS (cs := [.int .i64 0, .int .i64 0, .int .i64 5, .int .i64 11, .int .i64 9]) T4.E59 rfl rfl rfl rfl fun q123 K124 hq125 hK126 => ?_)))
       have hl127 : Sl (Flat (encI .i64)) 1 K124 (some q123) 5 ([0, 0, 5, 11, 9] : List Int) := Sl.litR (css := [[.int .i64 0], [.int .i64 0], [.int .i64 5], [.int .i64 11], [.int .i64 9]]) (l := ([0, 0, 5, 11, 9] : List Int)) ⟨⟨rfl, rfl, rfl⟩, ⟨rfl, rfl, rfl⟩, ⟨rfl, rfl, rfl⟩, ⟨rfl, rfl, rfl⟩, ⟨rfl, rfl, rfl⟩, tv⟩ hq125 hK126 rfl
       have := hl127.len
       refine gt hb121 rfl ?_
       obtain ⟨r128, hx129, hr130⟩ := bd_some hr122
       refine clS C50 rfl rfl rfl rfl (fun w H hH le => w50 hH (hl70.mono (Flat.mono _) (le.at 2 rfl)) (hl127.mono (Flat.mono _) (le.at 0 rfl)) hx129) (pt hb121 rfl rfl (a1 rfl (on ?_)))
       cases hr130
       intro a w hS hA
       exact ⟨hS.selH [2, 3, 4, 5, 6, 7, 8, 9, 10, 11] rfl, hA.cut ⟨rfl, tv⟩⟩
      ·have hr131 := if_n hb121 hr120
       refine gf hb121 rfl (gf hb121 rfl (gf hb121 rfl (pf hb121 rfl rfl (a1 rfl (on ?_)))))
       cases hr131
       intro a w hS hA
       exact ⟨hS.selH [1, 2, 3, 4, 5, 6, 7, 8, 9, 10] rfl, hA.cut ⟨rfl, tv⟩⟩
     ·have hr132 := if_n hb119 hr118
      refine gf hb119 rfl (gf hb119 rfl (pf hb119 rfl rfl (m1 rfl (gF rfl rfl rfl rfl (gF rfl rfl rfl rfl (gF rfl rfl rfl rfl (pF rfl rfl rfl rfl (a1 rfl (on ?_)))))))))
      cases hr132
      intro a w hS hA
      exact ⟨hS.selH [1, 2, 3, 4, 5, 6, 7, 8, 9, 10] rfl, hA.cut ⟨rfl, tv⟩⟩
    ·have hr133 := if_n hb117 hr116
     refine gf hb117 rfl (gf hb117 rfl (pf hb117 rfl rfl (m1 rfl (gF rfl rfl rfl rfl (gF rfl rfl rfl rfl (pF rfl rfl rfl rfl (m1 rfl (gF rfl rfl rfl rfl (gF rfl rfl rfl rfl (gF rfl rfl rfl rfl (pF rfl rfl rfl rfl ?_)))))))))))
     refine a1 rfl (on ?_)
     cases hr133
     intro a w hS hA
     exact ⟨hS.selH [1, 2, 3, 4, 5, 6, 7, 8, 9, 10] rfl, hA.cut ⟨rfl, tv⟩⟩
   ·have hr134 := if_f hb115 hr114
    refine gF rfl rfl (hb115) rfl (gF rfl rfl (hb115) rfl (pF rfl rfl (hb115) rfl (m1 rfl (gF rfl rfl rfl rfl (gF rfl rfl rfl rfl (pF rfl rfl rfl rfl (m1 rfl (gF rfl rfl rfl rfl (gF rfl rfl rfl rfl (pF rfl rfl rfl rfl (m1 rfl ?_)))))))))))
    refine gF rfl rfl rfl rfl (gF rfl rfl rfl rfl (gF rfl rfl rfl rfl (pF rfl rfl rfl rfl (a1 rfl (on ?_)))))
    cases hr134
    intro a w hS hA
    exact ⟨hS.selH [1, 2, 3, 4, 5, 6, 7, 8, 9, 10] rfl, hA.cut ⟨rfl, tv⟩⟩
  ·have hr135 := if_n hb105 hx103
   refine gf hb105 rfl (gf hb105 rfl (gf hb105 rfl (gf hb105 rfl (gf hb105 rfl (gf hb105 rfl (gf hb105 rfl (pf hb105 rfl rfl (m1 rfl (gF rfl rfl rfl rfl (gF rfl rfl rfl rfl (pF rfl rfl rfl rfl ?_)))))))))))
   refine m1 rfl (gF rfl rfl rfl rfl (gF rfl rfl rfl rfl (pF rfl rfl rfl rfl (m1 rfl (gF rfl rfl rfl rfl (gF rfl rfl rfl rfl (pF rfl rfl rfl rfl (m1 rfl (gF rfl rfl rfl rfl (gF rfl rfl rfl rfl (gF rfl rfl rfl rfl ?_)))))))))))
   refine pF rfl rfl rfl rfl (a1 rfl (on ?_))
   cases hr135
   exact cu ⟨rfl, tv⟩
 ·rintro a w ⟨hS, hA⟩
  refine TG.ap ?_ hS hA
  refine rt_ ?_
  cases hr104
  intro a w hS hA
  refine ret1 hA rfl rfl ?_
  exact ⟨rfl, hS.ext⟩

theorem w36 {M : Prop} {W : World} {H : Hp} (hH : H.le (hp W)) {cs_r_0 : List Value} (r_0 : Report) (h_r_0 : (RReport) H cs_r_0 r_0) {r : Int} (hr : m36 r_0 = some r) : Calls Tryz.prog 36 [.agg cs_r_0.toArray].toArray W (RetS M W (.int .i64 r)) := by
 have hh_r_0 := h_r_0
 obtain ⟨ad1, cap2, rfl, hl3⟩ := h_r_0
 have := hl3.len
 unfold m36 at hr
 refine enterG (M := M) Tryz.func36 rfl Tryz.ntmps36 rfl hH ?_
 refine sq (rg (bI (cs := [.slice ad1 r_0.words.length cap2, .int .i64 r_0.out, .int .i64 r_0.within]) rfl rfl rfl fun q4 K5 hK6 => (a1 rfl (on (sq (rg (ldA G56 Z56 rfl rfl (sS 0 rfl hK6) rfl ?_)))))))
 obtain ⟨r7, hx8, hr9⟩ := bd_some hr
 refine clS C61 rfl rfl rfl rfl (fun w H hH le => w61 hH r_0 (RReport.mono _ _ _ _ (le.at 1 rfl) hh_r_0) hx8) (a1 rfl (on (rt_ ?_)))
 cases hr9
 intro a w hS hA
 refine ret1 hA rfl rfl ?_
 exact ⟨rfl, hS.ext⟩

theorem w40 {M : Prop} {W : World} {H : Hp} (hH : H.le (hp W)) {cs_l_0 : List Value} (l_0 : Lexicon) (h_l_0 : (RLexicon) H cs_l_0 l_0) {r : Int} (hr : m40 l_0 = some r) : Calls Tryz.prog 40 [.agg cs_l_0.toArray].toArray W (RetS M W (.int .i64 r)) := by
 have hh_l_0 := h_l_0
 obtain ⟨ad1, cap2, ad4, cap5, ad7, cap8, rfl, hl3, hl6, hl9⟩ := h_l_0
 have := hl3.len
 have := hl6.len
 have := hl9.len
 unfold m40 at hr
 refine enterG (M := M) Tryz.func40 rfl Tryz.ntmps40 rfl hH ?_
 refine sq (rg (bI (cs := [.slice ad1 l_0.numbers.length cap2, .slice ad4 l_0.names.length cap5, .slice ad7 l_0.nots.length cap8]) rfl rfl rfl fun q10 K11 hK12 => (a1 rfl (on (sq (rg (ldA G36 Z36 rfl rfl (sS 0 rfl hK12) rfl ?_)))))))
 obtain ⟨r13, hx14, hr15⟩ := bd_some hr
 refine clK C58 rfl rfl rfl rfl (fun w H hH le => w58 hH l_0 (RLexicon.mono _ _ _ _ (le.at 1 rfl) hh_l_0) hx14) ?_
 rintro v_ K16 ⟨mp17, rfl, hm18⟩
 refine m1 rfl (ex rfl rfl rfl (ex rfl rfl rfl (a1 rfl (a1 rfl (on (sq (rg (m1 rfl (a1 rfl (on (rt_ ?_)))))))))))
 cases hr15
 intro a w hS hA
 refine ret1 hA rfl rfl ?_
 exact ⟨rfl, hS.ext⟩

theorem w65 {M : Prop} {W : World} {H : Hp} (hH : H.le (hp W)) (a_0 : Int) (b_1 : Int) {q_f0_ : Addr} {ad_f0_ : Option Addr} {cap_f0_ : Nat} {f0_ : List Request} (hc_f0_ : CellsAt H q_f0_ [.slice ad_f0_ f0_.length cap_f0_]) (h_f0_ : Sl (RRequest) 5 H ad_f0_ cap_f0_ f0_) {r : Int} (hr : m65 a_0 b_1 f0_ = some r) : Calls Tryz.prog 65 [.int .i64 a_0, .int .i64 b_1, .pointer (some q_f0_)].toArray W (RetS M W (.int .i64 r)) := by
 have := h_f0_.len
 unfold m65 at hr
 refine enterG (M := M) Tryz.func65 rfl Tryz.ntmps65 rfl hH ?_
 refine sq (rg (a1 rfl (on (sq ?_))))
 obtain ⟨hk1, hr2⟩ := chk_some hr
 obtain ⟨x3, hx4, hr5⟩ := bd_some hr2
 obtain ⟨p6, rfl⟩ := h_f0_.adr hx4
 obtain ⟨cs7, hcs8, hq9, hr10⟩ := h_f0_.at hx4
 have hr11 := hr10
 obtain ⟨ad12, cap13, rfl, hl14⟩ := hr10
 have := hl14.len
 obtain ⟨hk15, hr16⟩ := chk_some hr5
 obtain ⟨x17, hx18, hr19⟩ := bd_some hr16
 obtain ⟨cs20, hcs21, hq22, hr23⟩ := h_f0_.at hx18
 have hr24 := hr23
 obtain ⟨ad25, cap26, rfl, hl27⟩ := hr23
 have := hl27.len
 obtain ⟨hk28, hr29⟩ := chk_some hr19
 obtain ⟨hk30, hr31⟩ := chk_some hr29
 refine drG 22 mixed (by kernel_rfl) rfl (dt rfl (ld G64 rfl rfl (sS 1 rfl hc_f0_) rfl fin1) (dt rfl (m1 rfl fin1) (dt rfl (iaP U64 Z63 rfl rfl rfl (by omega) (lt_of hx4) fin1) (dt rfl (fb 2 U63 rfl rfl rfl rfl Z3 fin1) (dt rfl (ld G3 rfl rfl (((sS 1 rfl hq9).drop 2).take 1) rfl fin1) (dt rfl (ld G64 rfl rfl (sS 1 rfl hc_f0_) rfl fin1) (dt rfl (m1 rfl fin1) (dt rfl (iaP U64 Z63 rfl rfl rfl (by omega) (lt_of hx18) fin1) (dt rfl (fb 2 U63 rfl rfl rfl rfl Z3 fin1) (dt rfl (ld G3 rfl rfl (((sS 1 rfl hq22).drop 2).take 1) rfl fin1) (dt rfl (sbI rfl rfl rfl hk28 fin1) ?_)))))))))))
 refine dt rfl (ld G64 rfl rfl (sS 1 rfl hc_f0_) rfl fin1) (dt rfl (m1 rfl fin1) (dt rfl (iaP U64 Z63 rfl rfl rfl (by omega) (lt_of hx4) fin1) (dt rfl (fb 3 U63 rfl rfl rfl rfl Z3 fin1) (dt rfl (ld G3 rfl rfl (((sS 1 rfl hq9).drop 3).take 1) rfl fin1) (dt rfl (ld G64 rfl rfl (sS 1 rfl hc_f0_) rfl fin1) (dt rfl (m1 rfl fin1) (dt rfl (iaP U64 Z63 rfl rfl rfl (by omega) (lt_of hx18) fin1) (dt rfl (fb 3 U63 rfl rfl rfl rfl Z3 fin1) (dt rfl (ld G3 rfl rfl (((sS 1 rfl hq22).drop 3).take 1) rfl fin1) (dt rfl (sbI rfl rfl rfl hk30 fin1) (DF.nil fun K32 hF => ?_)))))))))))
 refine bS (cs := [.int .i64 (x3.from_ - x17.from_), .int .i64 (x3.cut - x17.cut)]) T4.E86 rfl rfl rfl rfl fun q33 K34 hq35 hK36 => ?_
 have hl37 : Sl (Flat (encI .i64)) 1 K34 (some q33) 2 ([(x3.from_ - x17.from_), (x3.cut - x17.cut)] : List Int) := Sl.litR (css := [[.int .i64 (x3.from_ - x17.from_)], [.int .i64 (x3.cut - x17.cut)]]) (l := ([(x3.from_ - x17.from_), (x3.cut - x17.cut)] : List Int)) ⟨⟨rfl, rfl, rfl⟩, ⟨rfl, rfl, rfl⟩, tv⟩ hq35 hK36 rfl
 have := hl37.len
 obtain ⟨r38, hx39, hr40⟩ := bd_some hr31
 refine clS C66 rfl rfl rfl rfl (fun w H hH le => w66 hH (hl37.mono (Flat.mono _) (le.at 0 rfl)) hx39) (a1 rfl (on (rt_ ?_)))
 cases hr40
 intro a w hS hA
 refine ret1 hA rfl rfl ?_
 exact ⟨rfl, hS.ext⟩

theorem w70 {M : Prop} {W : World} {H : Hp} (hH : H.le (hp W)) {ad_s_0 : Option Addr} {cap_s_0 : Nat} {s_0 : List Bytes} (h_s_0 : Sl (Flat encS) 1 H ad_s_0 cap_s_0 s_0) {r : List Bytes} (hr : m70 s_0 = some r) : Calls Tryz.prog 70 [.slice ad_s_0 s_0.length cap_s_0].toArray W (RetK M H W (fun v K => ∃ (ad0 : Option Addr) (cap0 : Nat), v = .slice ad0 r.length cap0 ∧ Sl (Flat encS) 1 K ad0 cap0 r)) := by
 have := h_s_0.len
 unfold m70 at hr
 refine enterG (M := M) Tryz.func70 rfl Tryz.ntmps70 rfl hH ?_
 refine sq (rg (a1 rfl (on (sq (sq (rg (m1 rfl (slN U24 rfl rfl (on ?_)))))))))
 refine cb rfl (fun hc3 => ?_) (fun hc3 => ?_)
 ·obtain rfl := Sl.isNil h_s_0 hc3
  have hr4 := (chk_some hr).2
  refine sq (rg (a1 rfl (on (rt_ ?_))))
  cases hr4
  intro a w hS hA
  refine ret1 hA rfl rfl ?_
  exact ⟨⟨_, _, rfl, (Sl.nil _ _ _ _ _ (by decide))⟩, hS.ext⟩
 ·refine sk (sq (rg (bSL 1 encS ([] : List Bytes) (cs := []) T4.E24 rfl rfl rfl rfl rfl rfl fun b5 => (m1 rfl ?_))))
  obtain ⟨hk6, hr7⟩ := chk_some hr
  have := lenA ([] : List Bytes) s_0
  refine apS 1 (enc := encS) (l := ([] : List Bytes)) (m := s_0) T4.E24 rfl rfl rfl rfl rfl rfl h_s_0 0 rfl (fun _ => rfl) (fun _ => rfl) rfl hk6 fun ad8 cap9 => (a1 rfl (on (rt_ ?_)))
  cases hr7
  intro a w hS hA
  refine ret1 hA rfl rfl ?_
  exact ⟨⟨_, _, rfl, (hS.listOut 1 rfl (fun _ => rfl))⟩, hS.ext⟩

theorem w42 {M : Prop} {W : World} {H : Hp} (hH : H.le (hp W)) (hg : Gv M H) {cs_l_0 : List Value} (l_0 : Lexicon) (h_l_0 : (RLexicon) H cs_l_0 l_0) {ad_swaps : Option Addr} {cap_swaps : Nat} {swaps : List Swap} (h_swaps : Sl (Flat encSwap) 3 H ad_swaps cap_swaps swaps) {cs_r_2 : List Value} (r_2 : Report) (h_r_2 : (RReport) H cs_r_2 r_2) {ad_requests : Option Addr} {cap_requests : Nat} {requests : List Request} (h_requests : Sl (RRequest) 5 H ad_requests cap_requests requests) {r : List Segment × Int} (hr : m42 l_0 swaps r_2 requests = some r) : Calls Tryz.prog 42 [.agg cs_l_0.toArray, .slice ad_swaps swaps.length cap_swaps, .agg cs_r_2.toArray, .slice ad_requests requests.length cap_requests].toArray W (RetK M H W (fun v K => ∃ (ad0 : Option Addr) (cap0 : Nat), v = .tuple [.slice ad0 r.1.length cap0, .int .i64 r.2].toArray ∧ Sl (RSegment) 3 K ad0 cap0 r.1)) := by
 have hh_l_0 := h_l_0
 obtain ⟨ad1, cap2, ad4, cap5, ad7, cap8, rfl, hl3, hl6, hl9⟩ := h_l_0
 have := hl3.len
 have := hl6.len
 have := hl9.len
 have := h_swaps.len
 have hh_r_2 := h_r_2
 obtain ⟨ad10, cap11, rfl, hl12⟩ := h_r_2
 have := hl12.len
 have := h_requests.len
 unfold m42 at hr
 refine enterG (M := M) Tryz.func42 rfl Tryz.ntmps42 rfl hH ?_
 refine sq (rg (bI (cs := [.slice ad1 l_0.numbers.length cap2, .slice ad4 l_0.names.length cap5, .slice ad7 l_0.nots.length cap8]) rfl rfl rfl fun q13 K14 hK15 => (bI (cs := [.slice ad10 r_2.words.length cap11, .int .i64 r_2.out, .int .i64 r_2.within]) rfl rfl rfl fun q16 K17 hK18 => (bI (cs := [.slice ad_requests requests.length cap_requests]) rfl rfl rfl fun q19 K20 hK21 => (a1 rfl (a1 rfl (on (sq (rg (ldA G36 Z36 rfl rfl (sS 2 rfl hK15) rfl (m1 rfl ?_)))))))))))
 refine ldA G56 Z56 rfl rfl (sS 1 rfl hK18) rfl (ld G64 rfl rfl (sS 0 rfl hK21) rfl ?_)
 obtain ⟨t1085, hx1086, hr1087⟩ := bd_some hr
 refine clI C59 Tryz.func59 rfl Tryz.ntmps59 rfl rfl rfl rfl (fun v w => (∃ (t1088 : Int), t1085 = (.inl t1088) ∧ v = .tuple [.pointer none, .int .i64 t1088].toArray ∧ St M W H [K20, K17, K14, H] [] w) ∨ (∃ (t1089 : List Int × List Request × List Said × (List (Bytes × Mark)) × List Swap × List Int), t1085 = (.inr t1089) ∧ ∃ (b1090 : Nat) (ad1091 : Option Addr) (cap1092 : Nat) (ad1093 : Option Addr) (cap1094 : Nat) (css1095 : List (List Value)) (K1096 : Hp) (ad1098 : Option Addr) (cap1099 : Nat) (K1100 : Hp) (mp1102 : Value) (K1103 : Hp) (ad1105 : Option Addr) (cap1106 : Nat) (K1107 : Hp) (ad1109 : Option Addr) (cap1110 : Nat), v = .tuple [.pointer (some (⟨b1090, 0, none⟩)), .int .i64 0].toArray ∧ St M W H [K1096, K1100, K1103, K1107, K20, K17, K14, H] [(8, Own.list ad1091 cap1092 3 1 (encI .i64) t1089.1), (7, Own.rows ad1093 cap1094 63 5 css1095 t1089.2.1), (2, cel b1090 133 [.slice ad1098 t1089.2.2.1.length cap1099, .int .i64 r_2.out, .int .i64 r_2.within, mp1102, .slice ad1105 t1089.2.2.2.2.1.length cap1106, .slice ad1093 t1089.2.1.length cap1094, .slice ad1091 t1089.1.length cap1092, .slice ad1109 t1089.2.2.2.2.2.length cap1110]), (1, Own.list ad1109 cap1110 31 1 (encI .i64) t1089.2.2.2.2.2)] w ∧ Rows (RRequest) 5 K1096 css1095 t1089.2.1 ∧ Sl (Flat encSaid) 2 K1100 ad1098 cap1099 t1089.2.2.1 ∧ Mp keS (fun x => Value.agg (encMark x).toArray) K1103 mp1102 t1089.2.2.2.1 ∧ Sl (Flat encSwap) 3 K1107 ad1105 cap1106 t1089.2.2.2.2.1)) ?_ ?_
 ·refine sq (rg (bI (cs := [.slice ad1 l_0.numbers.length cap2, .slice ad4 l_0.names.length cap5, .slice ad7 l_0.nots.length cap8]) rfl rfl rfl fun q1111 K1112 hK1113 => (bI (cs := [.slice ad10 r_2.words.length cap11, .int .i64 r_2.out, .int .i64 r_2.within]) rfl rfl rfl fun q1114 K1115 hK1116 => (bI (cs := [.slice ad_requests requests.length cap_requests]) rfl rfl rfl fun q1117 K1118 hK1119 => (a1 rfl (a1 rfl (on (sq (rg (ldA G36 Z36 rfl rfl (sS 2 rfl hK1113) rfl (m1 rfl ?_)))))))))))
  obtain ⟨r1120, hx1121, hr1122⟩ := bd_some hx1086
  refine clK C51 rfl rfl rfl rfl (fun w H hH le => w51 hH l_0 (RLexicon.mono _ _ _ _ (le.at 6 rfl) hh_l_0) (h_swaps.mono (Flat.mono _) (le.at 6 rfl)) hx1121) ?_
  rintro v_ K1123 ⟨cs1124, rfl, hr1125⟩
  have hr1126 := hr1125
  obtain ⟨mp1127, ad1129, cap1130, rfl, hm1128, hl1131⟩ := hr1125
  have := hl1131.len
  refine m1 rfl (ex rfl rfl rfl (ex rfl rfl rfl ?_))
  obtain ⟨b1132, rfl⟩ := Mp.isMap hm1128
  refine va (cs := [.map b1132, .slice ad1129 r1120.1.swaps.length cap1130]) Tryz.zeroValue117 Z117 rfl rfl rfl rfl rfl rfl rfl rfl fun q1133 K1134 hK1135 => (a1 rfl (on (sq (sq (rg (m1 rfl (neI rfl rfl rfl (on ?_))))))))
  refine ci rfl (fun hc1139 => ?_) (fun hc1139 => ?_)
  ·have hr1140 := if_p hc1139 hr1122
   refine sq (rg (m1 rfl (a1 rfl (a1 rfl (on (rt_ ?_))))))
   cases hr1140
   intro a w hS hA
   refine ret2 hA rfl rfl rfl ?_
   exact ⟨_, rfl, .inl ⟨_, rfl, rfl, hS.selH [5, 6, 7, 8] rfl⟩⟩
  ·have hr1141 := if_n hc1139 hr1122
   refine sk (sq (sq (rg (ldA G56 Z56 rfl rfl (sS 3 rfl hK1116) rfl ?_))))
   obtain ⟨r1142, hx1143, hr1144⟩ := bd_some hr1141
   refine clS C61 rfl rfl rfl rfl (fun w H hH le => w61 hH r_2 (RReport.mono _ _ _ _ (le.at 8 rfl) hh_r_2) hx1143) (a1 rfl (on (sq (rg (m1 rfl (neI rfl rfl rfl (on ?_)))))))
   refine ci rfl (fun hc1148 => ?_) (fun hc1148 => ?_)
   ·have hr1149 := if_p hc1148 hr1144
    refine sq (rg (m1 rfl (a1 rfl (a1 rfl (on (rt_ ?_))))))
    cases hr1149
    intro a w hS hA
    refine ret2 hA rfl rfl rfl ?_
    exact ⟨_, rfl, .inl ⟨_, rfl, rfl, hS.selH [5, 6, 7, 8] rfl⟩⟩
   ·have hr1150 := if_n hc1148 hr1144
    refine sk (sq (sq (rg (ld G64 rfl rfl (sS 2 rfl hK1119) rfl (lnL U64 rfl rfl (gtI rfl rfl rfl (on ?_)))))))
    refine ci rfl (fun hc1154 => ?_) (fun hc1154 => ?_)
    ·have hr1155 := if_p hc1154 hr1150
     refine sq (rg (a1 rfl (a1 rfl (on (rt_ ?_)))))
     cases hr1155
     intro a w hS hA
     refine ret2 hA rfl rfl rfl ?_
     exact ⟨_, rfl, .inl ⟨_, rfl, rfl, hS.selH [5, 6, 7, 8] rfl⟩⟩
    ·have hr1156 := if_n hc1154 hr1150
     refine sk (sq ?_)
     obtain ⟨hk1157, hr1158⟩ := chk_some hr1156
     have : (List.replicate requests.length (0 : Int)).length = requests.length := List.length_replicate
     refine drG2 5 4 mixed (by kernel_rfl) rfl rfl (DG.detA rfl rfl rfl (fun τ a w K hS hA hF => TG.pa hS hA (ldA G56 Z56 rfl rfl (sS 4 rfl hK1116) rfl fin1)) (DG.detA rfl rfl rfl (fun τ a w K hS hA hF => TG.pa hS hA (ldA G117 Z117 rfl rfl (sS 1 rfl hK1135) rfl fin1)) (DG.det (fun τ => τ = []) rfl rfl (.inr (by kernel_rfl)) (fun _ h => by cases h) rfl rfl (fun τ hτ a w K hS hA hF => by subst hτ <;> exact TG.pa hS hA (ld G64 rfl rfl (sS 3 rfl hK1119) rfl fin1)) (DG.det (fun τ => τ = []) rfl rfl (.inr (by kernel_rfl)) (fun _ h => by cases h) rfl rfl (fun τ hτ a w K hS hA hF => by subst hτ <;> exact TG.pa hS hA (lnL U64 rfl rfl fin1)) (DG.turn (α := Nat) 0 (fun b1159 => .slice (some ⟨b1159, 0, none⟩) ((List.replicate requests.length (0 : Int)).length) requests.length) (fun _ _ => True) (fun b1159 => [(1, Own.list (some ⟨b1159, 0, none⟩) requests.length 31 1 (encI .i64) (List.replicate requests.length (0 : Int)))]) rfl (fun _ _ _ _ h => h) (by kernel_rfl) rfl rfl (fun a w K hS hA hF => TG.pa hS hA (mkL 1 (encI .i64) (0 : Int) T4.E59 rfl rfl rfl rfl rfl rfl rfl hk1157 fun b1159 => finT (f := fun b1159 => .slice (some ⟨b1159, 0, none⟩) ((List.replicate requests.length (0 : Int)).length) requests.length) (G := fun _ _ => True) (σ1 := fun b1159 => [(1, Own.list (some ⟨b1159, 0, none⟩) requests.length 31 1 (encI .i64) (List.replicate requests.length (0 : Int)))]) b1159 tv)) fun b1159 => (DG.nil fun K1160 hF => ?_))))))
     obtain ⟨_, _⟩ := hF
     refine bu (cs := [.slice ad10 r_2.words.length cap11, .int .i64 r_2.out, .int .i64 r_2.within, .map b1132, .slice ad1129 r1120.1.swaps.length cap1130, .slice none 0 0, .slice none 0 0, .slice (some ⟨b1159, 0, none⟩) ((List.replicate requests.length (0 : Int)).length) requests.length]) T4.B133 rfl rfl rfl (bO 2 rfl rfl rfl fun b1161 => (a1 rfl (on (sq (rg (a1 rfl (on (sq (sq (rg (ld G64 rfl rfl (sS 3 rfl hK1119) rfl ?_)))))))))))
     refine lnL U64 rfl rfl (m1 rfl (on (TG.nilRow 4 3 1 (TG.as 4 (z := Own.list none 0 3 1 (encI .i64) ([] : List Int)) rfl rfl ?_))))
     obtain ⟨e1195, hl1196, hr1197⟩ := bd_some hr1158
     refine jn (fun a w => ∃ (ad1198 : Option Addr) (cap1199 : Nat), St M W H [K1160, K1134, K1123, K1118, K1115, K1112, K20, K17, K14, H] [(4, Own.list ad1198 cap1199 3 1 (encI .i64) e1195), (2, cel b1161 133 [.slice ad10 r_2.words.length cap11, .int .i64 r_2.out, .int .i64 r_2.within, .map b1132, .slice ad1129 r1120.1.swaps.length cap1130, .slice none 0 0, .slice none 0 0, .slice (some ⟨b1159, 0, none⟩) ((List.replicate requests.length (0 : Int)).length) requests.length]), (1, Own.list (some ⟨b1159, 0, none⟩) requests.length 31 1 (encI .i64) (List.replicate requests.length (0 : Int)))] w ∧ Has [] 106 a [(7, .pointer (some q1117)), (13, .pointer (some (⟨b1161, 0, none⟩))), (14, .slice ad1198 e1195.length cap1199)]) ?_ ?_
     ·refine bk ?_
      refine lp hl1196 (fun s1200 a w => ∃ (ad1201 : Option Addr) (cap1202 : Nat), St M W H [K1160, K1134, K1123, K1118, K1115, K1112, K20, K17, K14, H] [(4, Own.list ad1201 cap1202 3 1 (encI .i64) s1200.2), (2, cel b1161 133 [.slice ad10 r_2.words.length cap11, .int .i64 r_2.out, .int .i64 r_2.within, .map b1132, .slice ad1129 r1120.1.swaps.length cap1130, .slice none 0 0, .slice none 0 0, .slice (some ⟨b1159, 0, none⟩) ((List.replicate requests.length (0 : Int)).length) requests.length]), (1, Own.list (some ⟨b1159, 0, none⟩) requests.length 31 1 (encI .i64) (List.replicate requests.length (0 : Int)))] w ∧ Has [] 106 a [(7, .pointer (some q1117)), (13, .pointer (some (⟨b1161, 0, none⟩))), (14, .slice ad1201 s1200.2.length cap1202), (43, .int .i64 (requests.length : Int)), (44, .int .i64 (s1200.1 : Int))]) ?_ ?_
      ·intro a w hS hA
       exact ⟨none, 0, hS, hA.cut ⟨rfl, rfl, rfl, rfl, rfl, tv⟩⟩
      ·rintro j s1200 y1205 hr1203 hz1204 a w ⟨ad1201, cap1202, hS, hA⟩
       refine TG.ap ?_ hS hA
       unfold m42_1 at hr1203
       refine sq (rg (ltI rfl rfl rfl (on (sq ?_))))
       refine ci rfl (fun hc1209 => ?_) (fun hc1209 => ?_)
       ·have hr1210 := if_p hc1209 hr1203
        refine sk (sq (bk (sq (rg (m1 rfl (a1 rfl (on (rg (m1 rfl (m1 rfl ?_))))))))))
        obtain ⟨hk1216, hr1217⟩ := chk_some hr1210
        have := lenA s1200.2 [(s1200.1 : Int)]
        refine ap1 4 (encI .i64) (l := s1200.2) (s1200.1 : Int) T4.E86 rfl rfl rfl rfl rfl rfl rfl rfl rfl rfl rfl rfl hk1216 fun ad1218 cap1219 u1220 => (a1 rfl (on (rg (adI rfl rfl rfl (by omega) (m1 rfl (on ?_))))))
        cases hr1217
        intro a w hS hA
        exact ⟨_, hz1204, ad1218, cap1219, hS, hA.cut ⟨rfl, rfl, rfl, rfl, rfl, tv⟩⟩
       ·have hr1221 := if_n hc1209 hr1203
        refine xt rfl ?_
        cases hr1221
        obtain rfl := Fin.out hz1204
        intro a w hS hA
        exact ⟨ad1201, cap1202, hS, hA.cut ⟨rfl, rfl, rfl, tv⟩⟩
     ·rintro a w ⟨ad1198, cap1199, hS, hA⟩
      refine TG.ap ?_ hS hA
      refine sq (rg (m1 rfl (fn rfl rfl rfl ?_)))
      obtain ⟨t1889, hx1890, hr1891⟩ := bd_some hr1197
      refine clI C87 Tryz.func87 rfl Tryz.ntmps87 rfl rfl rfl rfl (fun v w => (v = .tuple #[] ∧ St M W H [K1160, K1134, K1123, K1118, K1115, K1112, K20, K17, K14, H] [(4, Own.list ad1198 cap1199 3 1 (encI .i64) t1889), (2, cel b1161 133 [.slice ad10 r_2.words.length cap11, .int .i64 r_2.out, .int .i64 r_2.within, .map b1132, .slice ad1129 r1120.1.swaps.length cap1130, .slice none 0 0, .slice none 0 0, .slice (some ⟨b1159, 0, none⟩) ((List.replicate requests.length (0 : Int)).length) requests.length]), (1, Own.list (some ⟨b1159, 0, none⟩) requests.length 31 1 (encI .i64) (List.replicate requests.length (0 : Int)))] w ∧ t1889.length = e1195.length)) ?_ ?_
      ·refine rg (m1 rfl (m1 rfl (TG.len 4 rfl fun _ => (lnL U86 rfl rfl (m1 rfl ?_)))))
       obtain ⟨t2556, hx2557, hr2558⟩ := bd_some hx1890
       refine clI C112 Tryz.func112 rfl Tryz.ntmps112 rfl rfl rfl rfl (fun v w => (v = .tuple #[] ∧ St M W H [K1160, K1134, K1123, K1118, K1115, K1112, K20, K17, K14, H] [(4, Own.list ad1198 cap1199 3 1 (encI .i64) t2556), (2, cel b1161 133 [.slice ad10 r_2.words.length cap11, .int .i64 r_2.out, .int .i64 r_2.within, .map b1132, .slice ad1129 r1120.1.swaps.length cap1130, .slice none 0 0, .slice none 0 0, .slice (some ⟨b1159, 0, none⟩) ((List.replicate requests.length (0 : Int)).length) requests.length]), (1, Own.list (some ⟨b1159, 0, none⟩) requests.length 31 1 (encI .i64) (List.replicate requests.length (0 : Int)))] w ∧ t2556.length = e1195.length)) ?_ ?_
       ·refine sq (rg (a1 rfl (on (sq (rg (m1 rfl (a1 rfl (a1 rfl (on (sq ?_))))))))))
        obtain ⟨e2994, hl2995, hr2996⟩ := bd_some hx2557
        refine jn (fun a w => St M W H [K1160, K1134, K1123, K1118, K1115, K1112, K20, K17, K14, H] [(4, Own.list ad1198 cap1199 3 1 (encI .i64) e2994.2), (2, cel b1161 133 [.slice ad10 r_2.words.length cap11, .int .i64 r_2.out, .int .i64 r_2.within, .map b1132, .slice ad1129 r1120.1.swaps.length cap1130, .slice none 0 0, .slice none 0 0, .slice (some ⟨b1159, 0, none⟩) ((List.replicate requests.length (0 : Int)).length) requests.length]), (1, Own.list (some ⟨b1159, 0, none⟩) requests.length 31 1 (encI .i64) (List.replicate requests.length (0 : Int)))] w ∧ Has [] 63 a [(0, .slice ad1198 e1195.length cap1199), (1, .int .i64 (e1195.length : Int)), (2, .func (.func 88) [].toArray [.pointer (some q1117)].toArray), (6, .int .i64 20), (7, .int .i64 (e2994.1 : Int))] ∧ e2994.2.length = e1195.length) ?_ ?_
        ·refine bk ?_
         refine lp hl2995 (fun s2998 a w => St M W H [K1160, K1134, K1123, K1118, K1115, K1112, K20, K17, K14, H] [(4, Own.list ad1198 cap1199 3 1 (encI .i64) s2998.2.2), (2, cel b1161 133 [.slice ad10 r_2.words.length cap11, .int .i64 r_2.out, .int .i64 r_2.within, .map b1132, .slice ad1129 r1120.1.swaps.length cap1130, .slice none 0 0, .slice none 0 0, .slice (some ⟨b1159, 0, none⟩) ((List.replicate requests.length (0 : Int)).length) requests.length]), (1, Own.list (some ⟨b1159, 0, none⟩) requests.length 31 1 (encI .i64) (List.replicate requests.length (0 : Int)))] w ∧ Has [] 63 a [(0, .slice ad1198 e1195.length cap1199), (1, .int .i64 (e1195.length : Int)), (2, .func (.func 88) [].toArray [.pointer (some q1117)].toArray), (6, .int .i64 20), (7, .int .i64 (s2998.1 : Int)), (8, .int .i64 (s2998.2.1 : Int))] ∧ s2998.2.2.length = e1195.length) ?_ ?_
         ·intro a w hS hA
          exact ⟨hS, hA.cut ⟨rfl, rfl, rfl, rfl, rfl, rfl, tv⟩, rfl⟩
         ·rintro j s2998 y3002 hr3000 hz3001 a w ⟨hS, hA, hln2999⟩
          refine TG.ap ?_ hS hA
          unfold m42_2 at hr3000
          refine sq (sq (rg (m1 rfl (m1 rfl (leI rfl rfl rfl (on ?_))))))
          refine ci rfl (fun hc3006 => ?_) (fun hc3006 => ?_)
          ·have hr3007 := if_p hc3006 hr3000
           refine sk (bk (sq (rg (m1 rfl (m1 rfl (m1 rfl (m1 rfl ?_)))))))
           obtain ⟨t3426, hx3427, hr3428⟩ := bd_some hr3007
           refine clI C122 Tryz.func122 rfl Tryz.ntmps122 rfl rfl rfl rfl (fun v w => (v = .tuple #[] ∧ St M W H [K1160, K1134, K1123, K1118, K1115, K1112, K20, K17, K14, H] [(4, Own.list ad1198 cap1199 3 1 (encI .i64) t3426), (2, cel b1161 133 [.slice ad10 r_2.words.length cap11, .int .i64 r_2.out, .int .i64 r_2.within, .map b1132, .slice ad1129 r1120.1.swaps.length cap1130, .slice none 0 0, .slice none 0 0, .slice (some ⟨b1159, 0, none⟩) ((List.replicate requests.length (0 : Int)).length) requests.length]), (1, Own.list (some ⟨b1159, 0, none⟩) requests.length 31 1 (encI .i64) (List.replicate requests.length (0 : Int)))] w ∧ t3426.length = e1195.length)) ?_ ?_
           ·refine sq (rg (m1 rfl ?_))
            obtain ⟨hk3430, hr3431⟩ := chk_some hx3427
            refine adI rfl rfl rfl hk3430 (a1 rfl (on ?_))
            obtain ⟨e3634, hl3635, hr3636⟩ := bd_some hr3431
            refine jn (fun a w => St M W H [K1160, K1134, K1123, K1118, K1115, K1112, K20, K17, K14, H] [(4, Own.list ad1198 cap1199 3 1 (encI .i64) e3634), (2, cel b1161 133 [.slice ad10 r_2.words.length cap11, .int .i64 r_2.out, .int .i64 r_2.within, .map b1132, .slice ad1129 r1120.1.swaps.length cap1130, .slice none 0 0, .slice none 0 0, .slice (some ⟨b1159, 0, none⟩) ((List.replicate requests.length (0 : Int)).length) requests.length]), (1, Own.list (some ⟨b1159, 0, none⟩) requests.length 31 1 (encI .i64) (List.replicate requests.length (0 : Int)))] w ∧ Has [] 53 a [] ∧ e3634.length = e1195.length) ?_ ?_
            ·refine bk ?_
             refine lp hl3635 (fun s3638 a w => St M W H [K1160, K1134, K1123, K1118, K1115, K1112, K20, K17, K14, H] [(4, Own.list ad1198 cap1199 3 1 (encI .i64) s3638.2), (2, cel b1161 133 [.slice ad10 r_2.words.length cap11, .int .i64 r_2.out, .int .i64 r_2.within, .map b1132, .slice ad1129 r1120.1.swaps.length cap1130, .slice none 0 0, .slice none 0 0, .slice (some ⟨b1159, 0, none⟩) ((List.replicate requests.length (0 : Int)).length) requests.length]), (1, Own.list (some ⟨b1159, 0, none⟩) requests.length 31 1 (encI .i64) (List.replicate requests.length (0 : Int)))] w ∧ Has [] 53 a [(0, .slice ad1198 e1195.length cap1199), (1, .int .i64 (s2998.1 : Int)), (2, .int .i64 (s2998.2.1 : Int)), (3, .func (.func 88) [].toArray [.pointer (some q1117)].toArray), (8, .int .i64 (s3638.1 : Int))] ∧ s3638.2.length = e1195.length) ?_ ?_
             ·intro a w hS hA
              exact ⟨hS, hA.cut ⟨rfl, rfl, rfl, rfl, rfl, tv⟩, hln2999⟩
             ·rintro j s3638 y3642 hr3640 hz3641 a w ⟨hS, hA, hln3639⟩
              refine TG.ap ?_ hS hA
              unfold m42_3 at hr3640
              refine sq (sq (rg (m1 rfl (m1 rfl (ltI rfl rfl rfl (on ?_))))))
              refine ci rfl (fun hc3646 => ?_) (fun hc3646 => ?_)
              ·have hr3647 := if_p hc3646 hr3640
               refine sk (sq (bk (sq (rg (m1 rfl (a1 rfl (on ?_)))))))
               obtain ⟨e3834, hl3835, hr3836⟩ := bd_some hr3647
               refine jn (fun a w => St M W H [K1160, K1134, K1123, K1118, K1115, K1112, K20, K17, K14, H] [(4, Own.list ad1198 cap1199 3 1 (encI .i64) e3834), (2, cel b1161 133 [.slice ad10 r_2.words.length cap11, .int .i64 r_2.out, .int .i64 r_2.within, .map b1132, .slice ad1129 r1120.1.swaps.length cap1130, .slice none 0 0, .slice none 0 0, .slice (some ⟨b1159, 0, none⟩) ((List.replicate requests.length (0 : Int)).length) requests.length]), (1, Own.list (some ⟨b1159, 0, none⟩) requests.length 31 1 (encI .i64) (List.replicate requests.length (0 : Int)))] w ∧ Has [] 53 a [(0, .slice ad1198 e1195.length cap1199), (1, .int .i64 (s2998.1 : Int)), (2, .int .i64 (s2998.2.1 : Int)), (3, .func (.func 88) [].toArray [.pointer (some q1117)].toArray), (8, .int .i64 (s3638.1 : Int))] ∧ e3834.length = e1195.length) ?_ ?_
               ·refine bk ?_
                refine lp hl3835 (fun s3838 a w => St M W H [K1160, K1134, K1123, K1118, K1115, K1112, K20, K17, K14, H] [(4, Own.list ad1198 cap1199 3 1 (encI .i64) s3838.2), (2, cel b1161 133 [.slice ad10 r_2.words.length cap11, .int .i64 r_2.out, .int .i64 r_2.within, .map b1132, .slice ad1129 r1120.1.swaps.length cap1130, .slice none 0 0, .slice none 0 0, .slice (some ⟨b1159, 0, none⟩) ((List.replicate requests.length (0 : Int)).length) requests.length]), (1, Own.list (some ⟨b1159, 0, none⟩) requests.length 31 1 (encI .i64) (List.replicate requests.length (0 : Int)))] w ∧ Has [] 53 a [(0, .slice ad1198 e1195.length cap1199), (1, .int .i64 (s2998.1 : Int)), (2, .int .i64 (s2998.2.1 : Int)), (3, .func (.func 88) [].toArray [.pointer (some q1117)].toArray), (8, .int .i64 (s3638.1 : Int)), (9, .int .i64 s3838.1)] ∧ s3838.2.length = e1195.length) ?_ ?_
                ·intro a w hS hA
                 exact ⟨hS, hA.cut ⟨rfl, rfl, rfl, rfl, rfl, rfl, tv⟩, hln3639⟩
                ·rintro j s3838 y3842 hr3840 hz3841 a w ⟨hS, hA, hln3839⟩
                 refine TG.ap ?_ hS hA
                 unfold m42_4 at hr3840
                 refine sq (sq ?_)
                 obtain ⟨t3864, hx3865, hr3866⟩ := bd_some hr3840
                 refine jn (fun a w => St M W H [K1160, K1134, K1123, K1118, K1115, K1112, K20, K17, K14, H] [(4, Own.list ad1198 cap1199 3 1 (encI .i64) s3838.2), (2, cel b1161 133 [.slice ad10 r_2.words.length cap11, .int .i64 r_2.out, .int .i64 r_2.within, .map b1132, .slice ad1129 r1120.1.swaps.length cap1130, .slice none 0 0, .slice none 0 0, .slice (some ⟨b1159, 0, none⟩) ((List.replicate requests.length (0 : Int)).length) requests.length]), (1, Own.list (some ⟨b1159, 0, none⟩) requests.length 31 1 (encI .i64) (List.replicate requests.length (0 : Int)))] w ∧ Has [] 53 a [(0, .slice ad1198 e1195.length cap1199), (1, .int .i64 (s2998.1 : Int)), (2, .int .i64 (s2998.2.1 : Int)), (3, .func (.func 88) [].toArray [.pointer (some q1117)].toArray), (8, .int .i64 (s3638.1 : Int)), (9, .int .i64 s3838.1), (34, .bool t3864)]) ?_ ?_
                 ·by_cases hb3867 : (s2998.1 : Int) < s3838.1
                  ·have hr3868 := if_p hb3867 hx3865
                   obtain ⟨hk3869, hr3870⟩ := chk_some hr3868
                   obtain ⟨x3871, hx3872, hr3873⟩ := bd_some hr3870
                   refine TG.addr 4 rfl (lt_of0 hx3872) fun b3874 h => ?_; subst h
                   obtain ⟨hk3875, hr3876⟩ := chk_some hr3873
                   obtain ⟨hk3877, hr3878⟩ := chk_some hr3876
                   obtain ⟨x3879, hx3880, hr3881⟩ := bd_some hr3878
                   refine drG 14 mixed (by kernel_rfl) rfl (dt rfl (m1 rfl fin1) (dt rfl (m1 rfl fin1) (dt rfl (gtI rfl rfl rfl fin1) (dt rfl (m1 rfl fin1) (dt rfl (gt hb3867 rfl (m1 rfl fin1)) (dt rfl (gt hb3867 rfl (m1 rfl fin1)) (dt rfl (gt hb3867 rfl (m1 rfl fin1)) (dt rfl (gt hb3867 rfl (iaP U86 Z3 rfl rfl rfl (by omega) (Nat.lt_of_lt_of_eq (lt_of hx3872) hln3839) fin1)) (dt rfl (gt hb3867 rfl (ld G3 rfl rfl (sE 4 rfl (fun _ => rfl) hx3872) rfl fin1)) (dt rfl (gt hb3867 rfl (m1 rfl fin1)) (dt rfl (gt hb3867 rfl (m1 rfl fin1)) ?_)))))))))))
                   refine dt rfl (gt hb3867 rfl (sbI rfl rfl rfl hk3875 fin1)) (dt rfl (gt hb3867 rfl (iaP U86 Z3 rfl rfl rfl (by omega) (Nat.lt_of_lt_of_eq (lt_of hx3880) hln3839) fin1)) (dt rfl (gt hb3867 rfl (ld G3 rfl rfl (sE 4 rfl (fun _ => rfl) hx3880) rfl fin1)) (DF.nil fun K3882 hF => (gt hb3867 rfl ?_))))
                   obtain ⟨r3883, hx3884, hr3885⟩ := bd_some hr3881
                   refine clS C88 rfl rfl rfl rfl (fun w H hH le => w88 hH x3871 x3879 (f0_ := requests) (hK1119.mono (le.at 4 rfl)) (h_requests.mono (RRequest.mono) (le.at 10 rfl)) hx3884) (gt hb3867 rfl (ltI rfl rfl rfl (pt hb3867 rfl rfl (on ?_))))
                   cases hr3885
                   intro a w hS hA
                   exact ⟨hS.selH [1, 2, 3, 4, 5, 6, 7, 8, 9, 10] rfl, hA.cut ⟨rfl, rfl, rfl, rfl, rfl, rfl, rfl, tv⟩⟩
                  ·have hr3886 := if_n hb3867 hx3865
                   refine drG 14 mixed (by kernel_rfl) rfl (dt rfl (m1 rfl fin1) (dt rfl (m1 rfl fin1) (dt rfl (gtI rfl rfl rfl fin1) (dt rfl (m1 rfl fin1) (dt rfl (gf hb3867 rfl fin1) (dt rfl (gf hb3867 rfl fin1) (dt rfl (gf hb3867 rfl fin1) (dt rfl (gf hb3867 rfl fin1) (dt rfl (gf hb3867 rfl fin1) (dt rfl (gf hb3867 rfl fin1) (dt rfl (gf hb3867 rfl fin1) ?_)))))))))))
                   refine dt rfl (gf hb3867 rfl fin1) (dt rfl (gf hb3867 rfl fin1) (dt rfl (gf hb3867 rfl fin1) (DF.nil fun K3887 hF => (gf hb3867 rfl (gf hb3867 rfl (pf hb3867 rfl rfl (on ?_)))))))
                   cases hr3886
                   intro a w hS hA
                   exact ⟨hS.selH [1, 2, 3, 4, 5, 6, 7, 8, 9, 10] rfl, hA.cut ⟨rfl, rfl, rfl, rfl, rfl, rfl, rfl, tv⟩⟩
                 ·rintro a w ⟨hS, hA⟩
                  refine TG.ap ?_ hS hA
                  refine cb rfl (fun hc3891 => ?_) (fun hc3891 => ?_)
                  ·have hr3892 := if_p hc3891 hr3866
                   refine sk (sq (bk ?_))
                   obtain ⟨hk3912, hr3913⟩ := chk_some hr3892
                   obtain ⟨hk3914, hr3915⟩ := chk_some hr3913
                   obtain ⟨x3916, hx3917, hr3918⟩ := bd_some hr3915
                   refine TG.addr 4 rfl (lt_of0 hx3917) fun b3919 h => ?_; subst h
                   obtain ⟨hk3920, hr3921⟩ := chk_some hr3918
                   obtain ⟨x3922, hx3923, hr3924⟩ := bd_some hr3921
                   refine drG3 14 [] [(2, 39, .slice (some ⟨b3919, 0, none⟩) e1195.length cap1199), (3, 40, .int .i64 s3838.1), (4, 41, .int .i64 (s3838.1 - 1))] mixed (fun _ _ _ _ _ h => h) (by kernel_rfl) (by kernel_rfl) (by kernel_rfl) rfl (by kernel_rfl) (.cons rfl rfl rfl (fun _ => rfl) (by kernel_rfl) (by kernel_rfl) (fun _ _ => rfl) (mvY rfl) (.cons rfl rfl rfl (fun _ => rfl) (by kernel_rfl) (by kernel_rfl) (fun _ _ => rfl) (mvY rfl) (.cons rfl rfl rfl (fun _ => rfl) (by kernel_rfl) (by kernel_rfl) (fun _ _ => rfl) (sbIY rfl rfl hk3912) (.nil)))) (dc rfl (by kernel_rfl) tv rfl rfl (m1 rfl fin1) (dc rfl (by kernel_rfl) tv rfl rfl (m1 rfl fin1) (DC.pre (.head _) rfl (DC.pre (.tail _ (.head _)) rfl (DC.pre (.tail _ (.tail _ (.head _))) rfl (dc rfl (by kernel_rfl) tv rfl rfl (m1 rfl fin1) (dc rfl (by kernel_rfl) tv rfl rfl (m1 rfl fin1) (dc rfl (by kernel_rfl) tv rfl rfl (sbI rfl rfl rfl hk3912 fin1) (dc rfl (by kernel_rfl) tv rfl rfl (iaP U86 Z3 rfl rfl rfl (by omega) (Nat.lt_of_lt_of_eq (lt_of hx3917) hln3839) fin1) (dc rfl (by kernel_rfl) tv rfl rfl (ld G3 rfl rfl (sE 4 rfl (fun _ => rfl) hx3917) rfl fin1) (dc rfl (by kernel_rfl) tv rfl rfl (m1 rfl fin1) ?_)))))))))))
                   refine dc rfl (by kernel_rfl) tv rfl rfl (m1 rfl fin1) (dc rfl (by kernel_rfl) tv rfl rfl (iaP U86 Z3 rfl rfl rfl (by omega) (Nat.lt_of_lt_of_eq (lt_of hx3923) hln3839) fin1) (dc rfl (by kernel_rfl) tv rfl rfl (ld G3 rfl rfl (sE 4 rfl (fun _ => rfl) hx3923) rfl fin1) (DC.nil fun K3925 hF => (iaP U86 Z3 rfl rfl rfl (by omega) (Nat.lt_of_lt_of_eq (lt_of hx3923) hln3839) ?_))))
                   have hln3926 : (s3838.2.set s3838.1.toNat x3916).length = e1195.length := (lenS _ _ _).trans hln3839
                   refine stE 4 x3916 (q := ⟨b3919, 0, none⟩) (j := s3838.1.toNat) (size := 1) (cs := [.int .i64 x3916]) (off := 0) Z3 rfl rfl rfl (fun _ => rfl) hx3923 rfl rfl rfl rfl rfl ?_
                   obtain ⟨x3927, hx3928, hr3929⟩ := bd_some hr3924
                   refine iaP U86 Z3 rfl rfl rfl (by omega) (Nat.lt_of_lt_of_eq (lt_of hx3928) hln3926) ?_
                   have hln3930 : ((s3838.2.set s3838.1.toNat x3916).set ((s3838.1 - 1).toNat) x3922).length = e1195.length := (lenS _ _ _).trans hln3926
                   refine stE 4 x3922 (q := ⟨b3919, 0, none⟩) (j := (s3838.1 - 1).toNat) (size := 1) (cs := [.int .i64 x3922]) (off := 0) Z3 rfl rfl rfl (fun _ => rfl) hx3928 rfl rfl rfl rfl rfl (on (rg (m1 rfl (sbI rfl rfl rfl hk3912 (a1 rfl (on ?_))))))
                   cases hr3929
                   intro a w hS hA
                   exact ⟨_, hz3841, hS.selH [1, 2, 3, 4, 5, 6, 7, 8, 9, 10] rfl, hA.cut ⟨rfl, rfl, rfl, rfl, rfl, rfl, tv⟩, hln3930⟩
                  ·have hr3931 := if_f hc3891 hr3866
                   refine xt rfl ?_
                   cases hr3931
                   obtain rfl := Fin.out hz3841
                   intro a w hS hA
                   exact ⟨hS, hA.cut ⟨rfl, rfl, rfl, rfl, rfl, tv⟩, hln3839⟩
               ·rintro a w ⟨hS, hA, hln3837⟩
                refine TG.ap ?_ hS hA
                refine rg (m1 rfl ?_)
                obtain ⟨hk3932, hr3933⟩ := chk_some hr3836
                refine adI rfl rfl rfl hk3932 (a1 rfl (on ?_))
                cases hr3933
                intro a w hS hA
                exact ⟨_, hz3641, hS, hA.cut ⟨rfl, rfl, rfl, rfl, rfl, tv⟩, hln3837⟩
              ·have hr3934 := if_n hc3646 hr3640
               refine xt rfl ?_
               cases hr3934
               obtain rfl := Fin.out hz3641
               intro a w hS hA
               exact ⟨hS, hA.cut tv, hln3639⟩
            ·rintro a w ⟨hS, hA, hln3637⟩
             refine TG.ap ?_ hS hA
             cases hr3636
             intro a w hS hA
             refine ret0 hA rfl ?_
             exact ⟨_, rfl, ⟨rfl, hS, hln3637⟩⟩
           ·rintro a w v hA (⟨rfl, hS, hln3429⟩)
            refine putK rfl hA hS (on (sq (rg (m1 rfl (a1 rfl (on (rg (m1 rfl (m1 rfl ?_)))))))))
            obtain ⟨hk3935, hr3936⟩ := chk_some hr3428
            refine adI rfl rfl rfl hk3935 (a1 rfl (on ?_))
            cases hr3936
            intro a w hS hA
            exact ⟨_, hz3001, hS, hA.cut ⟨rfl, rfl, rfl, rfl, rfl, rfl, tv⟩, hln3429⟩
          ·have hr3937 := if_n hc3006 hr3000
           refine xt rfl ?_
           cases hr3937
           obtain rfl := Fin.out hz3001
           intro a w hS hA
           exact ⟨hS, hA.cut ⟨rfl, rfl, rfl, rfl, rfl, tv⟩, hln2999⟩
        ·rintro a w ⟨hS, hA, hln2997⟩
         refine TG.ap ?_ hS hA
         refine sq (rg (m1 rfl (m1 rfl (m1 rfl (m1 rfl ?_)))))
         obtain ⟨t4140, hx4141, hr4142⟩ := bd_some hr2996
         refine clI C122 Tryz.func122 rfl Tryz.ntmps122 rfl rfl rfl rfl (fun v w => (v = .tuple #[] ∧ St M W H [K1160, K1134, K1123, K1118, K1115, K1112, K20, K17, K14, H] [(4, Own.list ad1198 cap1199 3 1 (encI .i64) t4140), (2, cel b1161 133 [.slice ad10 r_2.words.length cap11, .int .i64 r_2.out, .int .i64 r_2.within, .map b1132, .slice ad1129 r1120.1.swaps.length cap1130, .slice none 0 0, .slice none 0 0, .slice (some ⟨b1159, 0, none⟩) ((List.replicate requests.length (0 : Int)).length) requests.length]), (1, Own.list (some ⟨b1159, 0, none⟩) requests.length 31 1 (encI .i64) (List.replicate requests.length (0 : Int)))] w ∧ t4140.length = e1195.length)) ?_ ?_
         ·refine sq (rg (m1 rfl ?_))
          obtain ⟨hk4144, hr4145⟩ := chk_some hx4141
          refine adI rfl rfl rfl hk4144 (a1 rfl (on ?_))
          obtain ⟨e4344, hl4345, hr4346⟩ := bd_some hr4145
          refine jn (fun a w => St M W H [K1160, K1134, K1123, K1118, K1115, K1112, K20, K17, K14, H] [(4, Own.list ad1198 cap1199 3 1 (encI .i64) e4344), (2, cel b1161 133 [.slice ad10 r_2.words.length cap11, .int .i64 r_2.out, .int .i64 r_2.within, .map b1132, .slice ad1129 r1120.1.swaps.length cap1130, .slice none 0 0, .slice none 0 0, .slice (some ⟨b1159, 0, none⟩) ((List.replicate requests.length (0 : Int)).length) requests.length]), (1, Own.list (some ⟨b1159, 0, none⟩) requests.length 31 1 (encI .i64) (List.replicate requests.length (0 : Int)))] w ∧ Has [] 53 a [] ∧ e4344.length = e1195.length) ?_ ?_
          ·refine bk ?_
           refine lp hl4345 (fun s4348 a w => St M W H [K1160, K1134, K1123, K1118, K1115, K1112, K20, K17, K14, H] [(4, Own.list ad1198 cap1199 3 1 (encI .i64) s4348.2), (2, cel b1161 133 [.slice ad10 r_2.words.length cap11, .int .i64 r_2.out, .int .i64 r_2.within, .map b1132, .slice ad1129 r1120.1.swaps.length cap1130, .slice none 0 0, .slice none 0 0, .slice (some ⟨b1159, 0, none⟩) ((List.replicate requests.length (0 : Int)).length) requests.length]), (1, Own.list (some ⟨b1159, 0, none⟩) requests.length 31 1 (encI .i64) (List.replicate requests.length (0 : Int)))] w ∧ Has [] 53 a [(0, .slice ad1198 e1195.length cap1199), (1, .int .i64 (e2994.1 : Int)), (2, .int .i64 (e1195.length : Int)), (3, .func (.func 88) [].toArray [.pointer (some q1117)].toArray), (8, .int .i64 (s4348.1 : Int))] ∧ s4348.2.length = e1195.length) ?_ ?_
           ·intro a w hS hA
            exact ⟨hS, hA.cut ⟨rfl, rfl, rfl, rfl, rfl, tv⟩, hln2997⟩
           ·rintro j s4348 y4352 hr4350 hz4351 a w ⟨hS, hA, hln4349⟩
            refine TG.ap ?_ hS hA
            unfold m42_5 at hr4350
            refine sq (sq (rg (m1 rfl (m1 rfl (ltI rfl rfl rfl (on ?_))))))
            refine ci rfl (fun hc4356 => ?_) (fun hc4356 => ?_)
            ·have hr4357 := if_p hc4356 hr4350
             refine sk (sq (bk (sq (rg (m1 rfl (a1 rfl (on ?_)))))))
             obtain ⟨e4544, hl4545, hr4546⟩ := bd_some hr4357
             refine jn (fun a w => St M W H [K1160, K1134, K1123, K1118, K1115, K1112, K20, K17, K14, H] [(4, Own.list ad1198 cap1199 3 1 (encI .i64) e4544), (2, cel b1161 133 [.slice ad10 r_2.words.length cap11, .int .i64 r_2.out, .int .i64 r_2.within, .map b1132, .slice ad1129 r1120.1.swaps.length cap1130, .slice none 0 0, .slice none 0 0, .slice (some ⟨b1159, 0, none⟩) ((List.replicate requests.length (0 : Int)).length) requests.length]), (1, Own.list (some ⟨b1159, 0, none⟩) requests.length 31 1 (encI .i64) (List.replicate requests.length (0 : Int)))] w ∧ Has [] 53 a [(0, .slice ad1198 e1195.length cap1199), (1, .int .i64 (e2994.1 : Int)), (2, .int .i64 (e1195.length : Int)), (3, .func (.func 88) [].toArray [.pointer (some q1117)].toArray), (8, .int .i64 (s4348.1 : Int))] ∧ e4544.length = e1195.length) ?_ ?_
             ·refine bk ?_
              refine lp hl4545 (fun s4548 a w => St M W H [K1160, K1134, K1123, K1118, K1115, K1112, K20, K17, K14, H] [(4, Own.list ad1198 cap1199 3 1 (encI .i64) s4548.2), (2, cel b1161 133 [.slice ad10 r_2.words.length cap11, .int .i64 r_2.out, .int .i64 r_2.within, .map b1132, .slice ad1129 r1120.1.swaps.length cap1130, .slice none 0 0, .slice none 0 0, .slice (some ⟨b1159, 0, none⟩) ((List.replicate requests.length (0 : Int)).length) requests.length]), (1, Own.list (some ⟨b1159, 0, none⟩) requests.length 31 1 (encI .i64) (List.replicate requests.length (0 : Int)))] w ∧ Has [] 53 a [(0, .slice ad1198 e1195.length cap1199), (1, .int .i64 (e2994.1 : Int)), (2, .int .i64 (e1195.length : Int)), (3, .func (.func 88) [].toArray [.pointer (some q1117)].toArray), (8, .int .i64 (s4348.1 : Int)), (9, .int .i64 s4548.1)] ∧ s4548.2.length = e1195.length) ?_ ?_
              ·intro a w hS hA
               exact ⟨hS, hA.cut ⟨rfl, rfl, rfl, rfl, rfl, rfl, tv⟩, hln4349⟩
              ·rintro j s4548 y4552 hr4550 hz4551 a w ⟨hS, hA, hln4549⟩
               refine TG.ap ?_ hS hA
               unfold m42_6 at hr4550
               refine sq (sq ?_)
               obtain ⟨t4574, hx4575, hr4576⟩ := bd_some hr4550
               refine jn (fun a w => St M W H [K1160, K1134, K1123, K1118, K1115, K1112, K20, K17, K14, H] [(4, Own.list ad1198 cap1199 3 1 (encI .i64) s4548.2), (2, cel b1161 133 [.slice ad10 r_2.words.length cap11, .int .i64 r_2.out, .int .i64 r_2.within, .map b1132, .slice ad1129 r1120.1.swaps.length cap1130, .slice none 0 0, .slice none 0 0, .slice (some ⟨b1159, 0, none⟩) ((List.replicate requests.length (0 : Int)).length) requests.length]), (1, Own.list (some ⟨b1159, 0, none⟩) requests.length 31 1 (encI .i64) (List.replicate requests.length (0 : Int)))] w ∧ Has [] 53 a [(0, .slice ad1198 e1195.length cap1199), (1, .int .i64 (e2994.1 : Int)), (2, .int .i64 (e1195.length : Int)), (3, .func (.func 88) [].toArray [.pointer (some q1117)].toArray), (8, .int .i64 (s4348.1 : Int)), (9, .int .i64 s4548.1), (34, .bool t4574)]) ?_ ?_
               ·by_cases hb4577 : (e2994.1 : Int) < s4548.1
                ·have hr4578 := if_p hb4577 hx4575
                 obtain ⟨hk4579, hr4580⟩ := chk_some hr4578
                 obtain ⟨x4581, hx4582, hr4583⟩ := bd_some hr4580
                 refine TG.addr 4 rfl (lt_of0 hx4582) fun b4584 h => ?_; subst h
                 obtain ⟨hk4585, hr4586⟩ := chk_some hr4583
                 obtain ⟨hk4587, hr4588⟩ := chk_some hr4586
                 obtain ⟨x4589, hx4590, hr4591⟩ := bd_some hr4588
                 refine drG 14 mixed (by kernel_rfl) rfl (dt rfl (m1 rfl fin1) (dt rfl (m1 rfl fin1) (dt rfl (gtI rfl rfl rfl fin1) (dt rfl (m1 rfl fin1) (dt rfl (gt hb4577 rfl (m1 rfl fin1)) (dt rfl (gt hb4577 rfl (m1 rfl fin1)) (dt rfl (gt hb4577 rfl (m1 rfl fin1)) (dt rfl (gt hb4577 rfl (iaP U86 Z3 rfl rfl rfl (by omega) (Nat.lt_of_lt_of_eq (lt_of hx4582) hln4549) fin1)) (dt rfl (gt hb4577 rfl (ld G3 rfl rfl (sE 4 rfl (fun _ => rfl) hx4582) rfl fin1)) (dt rfl (gt hb4577 rfl (m1 rfl fin1)) (dt rfl (gt hb4577 rfl (m1 rfl fin1)) ?_)))))))))))
                 refine dt rfl (gt hb4577 rfl (sbI rfl rfl rfl hk4585 fin1)) (dt rfl (gt hb4577 rfl (iaP U86 Z3 rfl rfl rfl (by omega) (Nat.lt_of_lt_of_eq (lt_of hx4590) hln4549) fin1)) (dt rfl (gt hb4577 rfl (ld G3 rfl rfl (sE 4 rfl (fun _ => rfl) hx4590) rfl fin1)) (DF.nil fun K4592 hF => (gt hb4577 rfl ?_))))
                 obtain ⟨r4593, hx4594, hr4595⟩ := bd_some hr4591
                 refine clS C88 rfl rfl rfl rfl (fun w H hH le => w88 hH x4581 x4589 (f0_ := requests) (hK1119.mono (le.at 4 rfl)) (h_requests.mono (RRequest.mono) (le.at 10 rfl)) hx4594) (gt hb4577 rfl (ltI rfl rfl rfl (pt hb4577 rfl rfl (on ?_))))
                 cases hr4595
                 intro a w hS hA
                 exact ⟨hS.selH [1, 2, 3, 4, 5, 6, 7, 8, 9, 10] rfl, hA.cut ⟨rfl, rfl, rfl, rfl, rfl, rfl, rfl, tv⟩⟩
                ·have hr4596 := if_n hb4577 hx4575
                 refine drG 14 mixed (by kernel_rfl) rfl (dt rfl (m1 rfl fin1) (dt rfl (m1 rfl fin1) (dt rfl (gtI rfl rfl rfl fin1) (dt rfl (m1 rfl fin1) (dt rfl (gf hb4577 rfl fin1) (dt rfl (gf hb4577 rfl fin1) (dt rfl (gf hb4577 rfl fin1) (dt rfl (gf hb4577 rfl fin1) (dt rfl (gf hb4577 rfl fin1) (dt rfl (gf hb4577 rfl fin1) (dt rfl (gf hb4577 rfl fin1) ?_)))))))))))
                 refine dt rfl (gf hb4577 rfl fin1) (dt rfl (gf hb4577 rfl fin1) (dt rfl (gf hb4577 rfl fin1) (DF.nil fun K4597 hF => (gf hb4577 rfl (gf hb4577 rfl (pf hb4577 rfl rfl (on ?_)))))))
                 cases hr4596
                 intro a w hS hA
                 exact ⟨hS.selH [1, 2, 3, 4, 5, 6, 7, 8, 9, 10] rfl, hA.cut ⟨rfl, rfl, rfl, rfl, rfl, rfl, rfl, tv⟩⟩
               ·rintro a w ⟨hS, hA⟩
                refine TG.ap ?_ hS hA
                refine cb rfl (fun hc4601 => ?_) (fun hc4601 => ?_)
                ·have hr4602 := if_p hc4601 hr4576
                 refine sk (sq (bk ?_))
                 obtain ⟨hk4622, hr4623⟩ := chk_some hr4602
                 obtain ⟨hk4624, hr4625⟩ := chk_some hr4623
                 obtain ⟨x4626, hx4627, hr4628⟩ := bd_some hr4625
                 refine TG.addr 4 rfl (lt_of0 hx4627) fun b4629 h => ?_; subst h
                 obtain ⟨hk4630, hr4631⟩ := chk_some hr4628
                 obtain ⟨x4632, hx4633, hr4634⟩ := bd_some hr4631
                 refine drG3 14 [] [(2, 39, .slice (some ⟨b4629, 0, none⟩) e1195.length cap1199), (3, 40, .int .i64 s4548.1), (4, 41, .int .i64 (s4548.1 - 1))] mixed (fun _ _ _ _ _ h => h) (by kernel_rfl) (by kernel_rfl) (by kernel_rfl) rfl (by kernel_rfl) (.cons rfl rfl rfl (fun _ => rfl) (by kernel_rfl) (by kernel_rfl) (fun _ _ => rfl) (mvY rfl) (.cons rfl rfl rfl (fun _ => rfl) (by kernel_rfl) (by kernel_rfl) (fun _ _ => rfl) (mvY rfl) (.cons rfl rfl rfl (fun _ => rfl) (by kernel_rfl) (by kernel_rfl) (fun _ _ => rfl) (sbIY rfl rfl hk4622) (.nil)))) (dc rfl (by kernel_rfl) tv rfl rfl (m1 rfl fin1) (dc rfl (by kernel_rfl) tv rfl rfl (m1 rfl fin1) (DC.pre (.head _) rfl (DC.pre (.tail _ (.head _)) rfl (DC.pre (.tail _ (.tail _ (.head _))) rfl (dc rfl (by kernel_rfl) tv rfl rfl (m1 rfl fin1) (dc rfl (by kernel_rfl) tv rfl rfl (m1 rfl fin1) (dc rfl (by kernel_rfl) tv rfl rfl (sbI rfl rfl rfl hk4622 fin1) (dc rfl (by kernel_rfl) tv rfl rfl (iaP U86 Z3 rfl rfl rfl (by omega) (Nat.lt_of_lt_of_eq (lt_of hx4627) hln4549) fin1) (dc rfl (by kernel_rfl) tv rfl rfl (ld G3 rfl rfl (sE 4 rfl (fun _ => rfl) hx4627) rfl fin1) (dc rfl (by kernel_rfl) tv rfl rfl (m1 rfl fin1) ?_)))))))))))
                 refine dc rfl (by kernel_rfl) tv rfl rfl (m1 rfl fin1) (dc rfl (by kernel_rfl) tv rfl rfl (iaP U86 Z3 rfl rfl rfl (by omega) (Nat.lt_of_lt_of_eq (lt_of hx4633) hln4549) fin1) (dc rfl (by kernel_rfl) tv rfl rfl (ld G3 rfl rfl (sE 4 rfl (fun _ => rfl) hx4633) rfl fin1) (DC.nil fun K4635 hF => (iaP U86 Z3 rfl rfl rfl (by omega) (Nat.lt_of_lt_of_eq (lt_of hx4633) hln4549) ?_))))
                 have hln4636 : (s4548.2.set s4548.1.toNat x4626).length = e1195.length := (lenS _ _ _).trans hln4549
                 refine stE 4 x4626 (q := ⟨b4629, 0, none⟩) (j := s4548.1.toNat) (size := 1) (cs := [.int .i64 x4626]) (off := 0) Z3 rfl rfl rfl (fun _ => rfl) hx4633 rfl rfl rfl rfl rfl ?_
                 obtain ⟨x4637, hx4638, hr4639⟩ := bd_some hr4634
                 refine iaP U86 Z3 rfl rfl rfl (by omega) (Nat.lt_of_lt_of_eq (lt_of hx4638) hln4636) ?_
                 have hln4640 : ((s4548.2.set s4548.1.toNat x4626).set ((s4548.1 - 1).toNat) x4632).length = e1195.length := (lenS _ _ _).trans hln4636
                 refine stE 4 x4632 (q := ⟨b4629, 0, none⟩) (j := (s4548.1 - 1).toNat) (size := 1) (cs := [.int .i64 x4632]) (off := 0) Z3 rfl rfl rfl (fun _ => rfl) hx4638 rfl rfl rfl rfl rfl (on (rg (m1 rfl (sbI rfl rfl rfl hk4622 (a1 rfl (on ?_))))))
                 cases hr4639
                 intro a w hS hA
                 exact ⟨_, hz4551, hS.selH [1, 2, 3, 4, 5, 6, 7, 8, 9, 10] rfl, hA.cut ⟨rfl, rfl, rfl, rfl, rfl, rfl, tv⟩, hln4640⟩
                ·have hr4641 := if_f hc4601 hr4576
                 refine xt rfl ?_
                 cases hr4641
                 obtain rfl := Fin.out hz4551
                 intro a w hS hA
                 exact ⟨hS, hA.cut ⟨rfl, rfl, rfl, rfl, rfl, tv⟩, hln4549⟩
             ·rintro a w ⟨hS, hA, hln4547⟩
              refine TG.ap ?_ hS hA
              refine rg (m1 rfl (adI rfl rfl rfl (by omega) (a1 rfl (on ?_))))
              cases hr4546
              intro a w hS hA
              exact ⟨_, hz4351, hS, hA.cut ⟨rfl, rfl, rfl, rfl, rfl, tv⟩, hln4547⟩
            ·have hr4642 := if_n hc4356 hr4350
             refine xt rfl ?_
             cases hr4642
             obtain rfl := Fin.out hz4351
             intro a w hS hA
             exact ⟨hS, hA.cut tv, hln4349⟩
          ·rintro a w ⟨hS, hA, hln4347⟩
           refine TG.ap ?_ hS hA
           cases hr4346
           intro a w hS hA
           refine ret0 hA rfl ?_
           exact ⟨_, rfl, ⟨rfl, hS, hln4347⟩⟩
         ·rintro a w v hA (⟨rfl, hS, hln4143⟩)
          refine putK rfl hA hS (on ?_)
          obtain ⟨e4663, hl4664, hr4665⟩ := bd_some hr4142
          refine jn (fun a w => St M W H [K1160, K1134, K1123, K1118, K1115, K1112, K20, K17, K14, H] [(4, Own.list ad1198 cap1199 3 1 (encI .i64) t4140), (2, cel b1161 133 [.slice ad10 r_2.words.length cap11, .int .i64 r_2.out, .int .i64 r_2.within, .map b1132, .slice ad1129 r1120.1.swaps.length cap1130, .slice none 0 0, .slice none 0 0, .slice (some ⟨b1159, 0, none⟩) ((List.replicate requests.length (0 : Int)).length) requests.length]), (1, Own.list (some ⟨b1159, 0, none⟩) requests.length 31 1 (encI .i64) (List.replicate requests.length (0 : Int)))] w ∧ Has [] 63 a []) ?_ ?_
          ·refine bk ?_
           refine lp hl4664 (fun s4666 a w => St M W H [K1160, K1134, K1123, K1118, K1115, K1112, K20, K17, K14, H] [(4, Own.list ad1198 cap1199 3 1 (encI .i64) t4140), (2, cel b1161 133 [.slice ad10 r_2.words.length cap11, .int .i64 r_2.out, .int .i64 r_2.within, .map b1132, .slice ad1129 r1120.1.swaps.length cap1130, .slice none 0 0, .slice none 0 0, .slice (some ⟨b1159, 0, none⟩) ((List.replicate requests.length (0 : Int)).length) requests.length]), (1, Own.list (some ⟨b1159, 0, none⟩) requests.length 31 1 (encI .i64) (List.replicate requests.length (0 : Int)))] w ∧ Has [] 63 a [(0, .slice ad1198 e1195.length cap1199), (1, .int .i64 (e1195.length : Int)), (2, .func (.func 88) [].toArray [.pointer (some q1117)].toArray), (6, .int .i64 s4666)]) ?_ ?_
           ·exact cu ⟨rfl, rfl, rfl, rfl, tv⟩
           ·rintro j s4666 y4669 hr4667 hz4668 a w ⟨hS, hA⟩
            refine TG.ap ?_ hS hA
            unfold m42_7 at hr4667
            refine sq (sq (rg (m1 rfl (m1 rfl (ltI rfl rfl rfl (on ?_))))))
            refine ci rfl (fun hc4673 => ?_) (fun hc4673 => ?_)
            ·have hr4674 := if_p hc4673 hr4667
             refine sk (bk (sq (rg (m1 rfl ?_))))
             obtain ⟨hk4691, hr4692⟩ := chk_some hr4674
             refine mlI rfl rfl rfl hk4691 (a1 rfl (a1 rfl (on (sq ?_))))
             obtain ⟨e4699, hl4700, hr4701⟩ := bd_some hr4692
             refine jn (fun a w => St M W H [K1160, K1134, K1123, K1118, K1115, K1112, K20, K17, K14, H] [(4, Own.list ad1198 cap1199 3 1 (encI .i64) t4140), (2, cel b1161 133 [.slice ad10 r_2.words.length cap11, .int .i64 r_2.out, .int .i64 r_2.within, .map b1132, .slice ad1129 r1120.1.swaps.length cap1130, .slice none 0 0, .slice none 0 0, .slice (some ⟨b1159, 0, none⟩) ((List.replicate requests.length (0 : Int)).length) requests.length]), (1, Own.list (some ⟨b1159, 0, none⟩) requests.length 31 1 (encI .i64) (List.replicate requests.length (0 : Int)))] w ∧ Has [] 63 a [(0, .slice ad1198 e1195.length cap1199), (1, .int .i64 (e1195.length : Int)), (2, .func (.func 88) [].toArray [.pointer (some q1117)].toArray), (6, .int .i64 s4666), (7, .int .i64 (e4699 : Int))]) ?_ ?_
             ·refine bk ?_
              refine lp hl4700 (fun s4702 a w => St M W H [K1160, K1134, K1123, K1118, K1115, K1112, K20, K17, K14, H] [(4, Own.list ad1198 cap1199 3 1 (encI .i64) t4140), (2, cel b1161 133 [.slice ad10 r_2.words.length cap11, .int .i64 r_2.out, .int .i64 r_2.within, .map b1132, .slice ad1129 r1120.1.swaps.length cap1130, .slice none 0 0, .slice none 0 0, .slice (some ⟨b1159, 0, none⟩) ((List.replicate requests.length (0 : Int)).length) requests.length]), (1, Own.list (some ⟨b1159, 0, none⟩) requests.length 31 1 (encI .i64) (List.replicate requests.length (0 : Int)))] w ∧ Has [] 63 a [(0, .slice ad1198 e1195.length cap1199), (1, .int .i64 (e1195.length : Int)), (2, .func (.func 88) [].toArray [.pointer (some q1117)].toArray), (6, .int .i64 s4666), (7, .int .i64 (s4702.1 : Int)), (8, .int .i64 s4702.2)]) ?_ ?_
              ·exact cu ⟨rfl, rfl, rfl, rfl, rfl, rfl, tv⟩
              ·rintro j s4702 y4705 hr4703 hz4704 a w ⟨hS, hA⟩
               refine TG.ap ?_ hS hA
               unfold m42_8 at hr4703
               refine sq (sq (rg (m1 rfl (m1 rfl (leI rfl rfl rfl (on ?_))))))
               refine ci rfl (fun hc4709 => ?_) (fun hc4709 => ?_)
               ·have hr4710 := if_p hc4709 hr4703
                refine sk (bk (sq (rg (m1 rfl (m1 rfl (m1 rfl (m1 rfl ?_)))))))
                obtain ⟨hk4713, hr4714⟩ := chk_some hr4710
                refine adI rfl rfl rfl hk4713 (m1 rfl (m1 rfl ?_))
                cases hr4714
               ·have hr4715 := if_n hc4709 hr4703
                refine xt rfl ?_
                cases hr4715
                obtain rfl := Fin.out hz4704
                exact cu ⟨rfl, rfl, rfl, rfl, rfl, tv⟩
             ·rintro a w ⟨hS, hA⟩
              refine TG.ap ?_ hS hA
              refine sq (sq (rg (m1 rfl (m1 rfl ?_))))
              obtain ⟨hk4716, hr4717⟩ := chk_some hr4701
              refine adI rfl rfl rfl hk4716 (a1 rfl (on (sq (rg (m1 rfl (m1 rfl (ltI rfl rfl rfl (on ?_))))))))
              refine ci rfl (fun hc4721 => ?_) (fun hc4721 => ?_)
              ·have hr4722 := if_p hc4721 hr4717
               refine rg (m1 rfl (m1 rfl (m1 rfl (m1 rfl (m1 rfl ?_)))))
               cases hr4722
              ·have hr4723 := if_n hc4721 hr4717
               refine sk (rg (m1 rfl ?_))
               obtain ⟨hk4724, hr4725⟩ := chk_some hr4723
               refine mlI rfl rfl rfl hk4724 (a1 rfl (on ?_))
               cases hr4725
               intro a w hS hA
               exact ⟨_, hz4668, hS, hA.cut ⟨rfl, rfl, rfl, rfl, tv⟩⟩
            ·have hr4726 := if_n hc4673 hr4667
             refine xt rfl ?_
             cases hr4726
             obtain rfl := Fin.out hz4668
             exact cu tv
          ·rintro a w ⟨hS, hA⟩
           refine TG.ap ?_ hS hA
           cases hr4665
           intro a w hS hA
           refine ret0 hA rfl ?_
           exact ⟨_, rfl, ⟨rfl, hS, hln4143⟩⟩
       ·rintro a w v hA (⟨rfl, hS, hln2559⟩)
        refine putK rfl hA hS (on ?_)
        cases hr2558
        intro a w hS hA
        refine ret0 hA rfl ?_
        exact ⟨_, rfl, ⟨rfl, hS, hln2559⟩⟩
      ·rintro a w v hA (⟨rfl, hS, hln1892⟩)
       refine putK rfl hA hS (on (sq (sq (rg (m1 rfl (TG.len 4 rfl fun _ => (lnL U86 rfl rfl (m1 rfl (on (TG.nilRow 7 63 5 ?_))))))))))
       have hR4840 : Rows (RRequest) 5 H [] ([] : List Request) := tv
       refine TG.nilRow 8 3 1 (TG.as 8 (z := Own.list none 0 3 1 (encI .i64) ([] : List Int)) rfl rfl (TG.as 7 (z := Own.rows none 0 63 5 [] ([] : List Request)) rfl rfl ?_))
       obtain ⟨e5016, hl5017, hr5018⟩ := bd_some hr1891
       refine jn (fun a w => ∃ (ad5019 : Option Addr) (cap5020 : Nat) (ad5021 : Option Addr) (cap5022 : Nat) (css5023 : List (List Value)) (K5024 : Hp), St M W H [K5024, K1160, K1134, K1123, K1118, K1115, K1112, K20, K17, K14, H] [(8, Own.list ad5019 cap5020 3 1 (encI .i64) e5016.1), (7, Own.rows ad5021 cap5022 63 5 css5023 e5016.2.1), (4, Own.list ad1198 cap1199 3 1 (encI .i64) t1889), (2, cel b1161 133 [.slice ad10 r_2.words.length cap11, .int .i64 r_2.out, .int .i64 r_2.within, .map b1132, .slice ad1129 r1120.1.swaps.length cap1130, .slice ad5021 e5016.2.1.length cap5022, .slice ad5019 e5016.1.length cap5020, .slice (some ⟨b1159, 0, none⟩) ((List.replicate requests.length (0 : Int)).length) requests.length]), (1, Own.list (some ⟨b1159, 0, none⟩) requests.length 31 1 (encI .i64) e5016.2.2)] w ∧ Has [] 106 a [(13, .pointer (some (⟨b1161, 0, none⟩)))] ∧ Rows (RRequest) 5 K5024 css5023 e5016.2.1 ∧ e5016.2.2.length = (List.replicate requests.length (0 : Int)).length) ?_ ?_
       ·refine bk ?_
        refine lp hl5017 (fun s5027 a w => ∃ (ad5028 : Option Addr) (cap5029 : Nat) (ad5030 : Option Addr) (cap5031 : Nat) (css5032 : List (List Value)) (K5033 : Hp), St M W H [K5033, K1160, K1134, K1123, K1118, K1115, K1112, K20, K17, K14, H] [(8, Own.list ad5028 cap5029 3 1 (encI .i64) s5027.2.1), (7, Own.rows ad5030 cap5031 63 5 css5032 s5027.2.2.1), (4, Own.list ad1198 cap1199 3 1 (encI .i64) t1889), (2, cel b1161 133 [.slice ad10 r_2.words.length cap11, .int .i64 r_2.out, .int .i64 r_2.within, .map b1132, .slice ad1129 r1120.1.swaps.length cap1130, .slice ad5030 s5027.2.2.1.length cap5031, .slice ad5028 s5027.2.1.length cap5029, .slice (some ⟨b1159, 0, none⟩) ((List.replicate requests.length (0 : Int)).length) requests.length]), (1, Own.list (some ⟨b1159, 0, none⟩) requests.length 31 1 (encI .i64) s5027.2.2.2)] w ∧ Has [] 106 a [(7, .pointer (some q1117)), (13, .pointer (some (⟨b1161, 0, none⟩))), (55, .slice ad1198 e1195.length cap1199), (56, .int .i64 (e1195.length : Int)), (57, .int .i64 (s5027.1 : Int))] ∧ Rows (RRequest) 5 K5033 css5032 s5027.2.2.1 ∧ s5027.2.2.2.length = (List.replicate requests.length (0 : Int)).length) ?_ ?_
        ·intro a w hS hA
         exact ⟨none, 0, none, 0, [], H, hS.selH [9, 0, 1, 2, 3, 4, 5, 6, 7, 8, 9] rfl, hA.cut ⟨rfl, rfl, rfl, rfl, rfl, tv⟩, hR4840, rfl⟩
        ·rintro j s5027 y5038 hr5036 hz5037 a w ⟨ad5028, cap5029, ad5030, cap5031, css5032, K5033, hS, hA, hR5034, hln5035⟩
         refine TG.ap ?_ hS hA
         unfold m42_9 at hr5036
         refine sq (rg (ltI rfl rfl rfl (on (sq ?_))))
         refine ci rfl (fun hc5042 => ?_) (fun hc5042 => ?_)
         ·have hr5043 := if_p hc5042 hr5036
          refine sk (sq (bk (sq (rg ?_))))
          obtain ⟨x5116, hx5117, hr5118⟩ := bd_some hr5043
          refine TG.addr 4 rfl (lt_of0 hx5117) fun b5119 h => ?_; subst h
          refine iaP U86 Z3 rfl rfl rfl rfl (Nat.lt_of_lt_of_eq (lt_of hx5117) hln1892) (ld G3 rfl rfl (sE 4 rfl (fun _ => rfl) hx5117) rfl (a1 rfl (on (sq ?_))))
          obtain ⟨hk5120, hr5121⟩ := chk_some hr5118
          obtain ⟨x5122, hx5123, hr5124⟩ := bd_some hr5121
          obtain ⟨p5125, rfl⟩ := h_requests.adr hx5123
          obtain ⟨cs5126, hcs5127, hq5128, hr5129⟩ := h_requests.at hx5123
          have hr5130 := hr5129
          obtain ⟨ad5131, cap5132, rfl, hl5133⟩ := hr5129
          have := hl5133.len
          obtain ⟨r5134, hx5135, hr5136⟩ := bd_some hr5124
          refine drG 11 mixed (by kernel_rfl) rfl (dt rfl (m1 rfl fin1) (dt rfl (nl rfl rfl fin1) (dt rfl (fb 7 U133 rfl rfl rfl rfl Z59 fin1) (dt rfl (ld G59 rfl rfl ((sO 2 rfl).drop 7) rfl fin1) (dt rfl (m1 rfl fin1) (dt rfl (m1 rfl fin1) (dt rfl (ld G64 rfl rfl (sS 5 rfl hK1119) rfl fin1) (dt rfl (m1 rfl fin1) (dt rfl (iaP U64 Z63 rfl rfl rfl (by omega) (lt_of hx5123) fin1) (dt rfl (ldA G63 Z63 rfl rfl (sS 11 rfl hq5128) rfl fin1) (dt rfl (clL C90 rfl rfl rfl rfl (fun w hS => w90 (Hp.le.refl (hp w)) (hg.mono (hS.hp 11 rfl)) (⟨r_2, r1120.1, s5027.2.2.1, s5027.2.1, s5027.2.2.2⟩ : decided) (cell_at (hS.get (t := 2) rfl)) ⟨ad10, cap11, (.map b1132), ad1129, cap1130, ad5030, cap5031, ad5028, cap5029, (some ⟨b1159, 0, none⟩), requests.length, (by simp only [hln5035]), (hl12.mono (Flat.mono _) (hS.hp 11 rfl)), (hm1128.mono (hS.hp 4 rfl)), (hl1131.mono (Flat.mono _) (hS.hp 4 rfl)), (rows_sl (H := hp w) (hS.get (t := 7) rfl) (hR5034.mono (RRequest.mono) (hS.hp 1 rfl)) (fun _ _ _ ho => ho)), (list_sl (H := hp w) (enc := encI .i64) (size := 1) (ad := ad5028) (cap := cap5029) (el := 3) (l := s5027.2.1) (fun _ => rfl) (hS.get (t := 8) rfl) (fun _ _ _ ho => ho)), (list_sl (H := hp w) (enc := encI .i64) (size := 1) (ad := (some ⟨b1159, 0, none⟩)) (cap := requests.length) (el := 31) (l := s5027.2.2.2) (fun _ => rfl) (hS.get (t := 1) rfl) (fun _ _ _ ho => ho))⟩ x5122 (RRequest.mono _ _ _ _ (hS.hp 11 rfl) hr5130) hx5135) fin1) ?_)))))))))))
          refine DF.nil fun K5137 hF => ?_
          obtain ⟨x5138, hx5139, hr5140⟩ := bd_some hr5136
          refine iaP U59 Z31 rfl rfl rfl (by omega) (Nat.lt_of_lt_of_eq (lt_of hx5139) hln5035) ?_
          have hln5141 : (s5027.2.2.2.set x5116.toNat r5134).length = (List.replicate requests.length (0 : Int)).length := (lenS _ _ _).trans hln5035
          refine stE 1 r5134 (q := ⟨b1159, 0, none⟩) (j := x5116.toNat) (size := 1) (cs := [.int .i64 r5134]) (off := 0) Z31 rfl rfl rfl (fun _ => rfl) hx5139 rfl rfl rfl rfl rfl (on (sq (rg (m1 rfl (nl rfl rfl (fb 7 U133 rfl rfl rfl rfl Z59 (ld G59 rfl rfl ((sO 2 rfl).drop 7) rfl (m1 rfl ?_))))))))
          obtain ⟨x5142, hx5143, hr5144⟩ := bd_some hr5140
          refine iaP U59 Z31 rfl rfl rfl (by omega) (Nat.lt_of_lt_of_eq (lt_of hx5143) hln5141) (ld G31 rfl rfl (sE 1 rfl (fun _ => rfl) hx5143) rfl (eqI rfl rfl rfl (on ?_)))
          obtain ⟨t5180, hx5181, hr5182⟩ := bd_some hr5144
          refine jn (fun a w => ∃ (ad5183 : Option Addr) (cap5184 : Nat) (ad5185 : Option Addr) (cap5186 : Nat) (css5187 : List (List Value)) (K5188 : Hp), St M W H [K5188, K5137, K5033, K1160, K1134, K1123, K1118, K1115, K1112, K20, K17, K14, H] [(8, Own.list ad5183 cap5184 3 1 (encI .i64) t5180.1), (7, Own.rows ad5185 cap5186 63 5 css5187 t5180.2), (4, Own.list (some ⟨b5119, 0, none⟩) cap1199 3 1 (encI .i64) t1889), (2, cel b1161 133 [.slice ad10 r_2.words.length cap11, .int .i64 r_2.out, .int .i64 r_2.within, .map b1132, .slice ad1129 r1120.1.swaps.length cap1130, .slice ad5185 t5180.2.length cap5186, .slice ad5183 t5180.1.length cap5184, .slice (some ⟨b1159, 0, none⟩) ((List.replicate requests.length (0 : Int)).length) requests.length]), (1, Own.list (some ⟨b1159, 0, none⟩) requests.length 31 1 (encI .i64) (s5027.2.2.2.set x5116.toNat r5134))] w ∧ Has [] 106 a [(7, .pointer (some q1117)), (13, .pointer (some (⟨b1161, 0, none⟩))), (55, .slice (some ⟨b5119, 0, none⟩) e1195.length cap1199), (56, .int .i64 (e1195.length : Int)), (57, .int .i64 (s5027.1 : Int))] ∧ Rows (RRequest) 5 K5188 css5187 t5180.2) ?_ ?_
          ·refine ci rfl (fun hc5190 => ?_) (fun hc5190 => ?_)
           ·have hr5191 := if_p hc5190 hx5181
            obtain ⟨hk5201, hr5202⟩ := chk_some hr5191
            have := lenA s5027.2.2.1 ([x5122] : List Request)
            obtain ⟨hk5219, hr5220⟩ := chk_some hr5202
            have := lenA s5027.2.1 ([x5116] : List Int)
            refine drG3 19 [11, 18] [(1, 82, .pointer (some (⟨b1161, 0, none⟩)))] mixed (fun _ _ _ _ _ h => h) (by kernel_rfl) (by kernel_rfl) (by kernel_rfl) rfl (by kernel_rfl) (.cons rfl rfl rfl (fun _ => rfl) (by kernel_rfl) (by kernel_rfl) (fun _ _ => rfl) (mvY rfl) (.nil)) (DC.detA rfl rfl rfl (fun τ a w K hS hA hF => TG.pa hS hA (m1 rfl fin1)) (DC.pre (.head _) rfl (dc rfl (by kernel_rfl) tv rfl rfl (m1 rfl fin1) (dc rfl (by kernel_rfl) tv rfl rfl (nl rfl rfl fin1) (dc rfl (by kernel_rfl) tv rfl rfl (fb 5 U133 rfl rfl rfl rfl Z64 fin1) (dc rfl (by kernel_rfl) tv rfl rfl (ld G64 rfl rfl (((sO 2 rfl).drop 5).take 1) rfl fin1) (dc rfl (by kernel_rfl) tv rfl rfl (ld G64 rfl rfl (sS 6 rfl hK1119) rfl fin1) (dc rfl (by kernel_rfl) tv rfl rfl (m1 rfl fin1) (dc rfl (by kernel_rfl) tv rfl rfl (iaP U64 Z63 rfl rfl rfl (by omega) (lt_of hx5123) fin1) (dc rfl (by kernel_rfl) tv rfl rfl (ldA G63 Z63 rfl rfl (sS 12 rfl hq5128) rfl fin1) ?_))))))))))
            refine DC.und (α := Option Addr × Nat) (none, 0) (fun q => .slice q.1 1 q.2) (fun (q : Option Addr × Nat) K => Sl (RRequest) 5 K q.1 q.2 ([x5122] : List Request)) (fun τ => τ = [(8, Own.list ad5028 cap5029 3 1 (encI .i64) s5027.2.1), (7, Own.rows ad5030 cap5031 63 5 css5032 s5027.2.2.1), (4, Own.list (some ⟨b5119, 0, none⟩) cap1199 3 1 (encI .i64) t1889), (2, cel b1161 133 [.slice ad10 r_2.words.length cap11, .int .i64 r_2.out, .int .i64 r_2.within, .map b1132, .slice ad1129 r1120.1.swaps.length cap1130, .slice ad5030 s5027.2.2.1.length cap5031, .slice ad5028 s5027.2.1.length cap5029, .slice (some ⟨b1159, 0, none⟩) ((List.replicate requests.length (0 : Int)).length) requests.length]), (1, Own.list (some ⟨b1159, 0, none⟩) requests.length 31 1 (encI .i64) (s5027.2.2.2.set x5116.toNat r5134))]) rfl rfl (by kernel_rfl) tv (fun _ _ _ h x => x.mono (RRequest.mono) h) (by kernel_rfl) rfl rfl (fun τ hτ a w K hS hA hF => by subst hτ <;> exact TG.pa hS hA (bS (cs := [.int .i64 x5122.by_, .int .i64 x5122.minute, .int .i64 x5122.from_, .int .i64 x5122.cut, .slice ad5131 x5122.put_.length cap5132]) T4.E64 rfl rfl rfl rfl fun q5192 K5193 hq5194 hK5195 => by
              refine TG.pack (fun K => Sl (RRequest) 5 K (some q5192) 1 ([x5122] : List Request)) (fun H le => Sl.litR (css := [[.int .i64 x5122.by_, .int .i64 x5122.minute, .int .i64 x5122.from_, .int .i64 x5122.cut, .slice ad5131 x5122.put_.length cap5132]]) (l := ([x5122] : List Request)) ⟨⟨rfl, rfl, (RRequest.mono _ _ _ _ (le.at 13 rfl) hr5130)⟩, tv⟩ hq5194 (hK5195.mono (le.at 0 rfl)) rfl) fun K5197 hl5196 => ?_
              have := hl5196.len
              refine sk1 ?_
              exact finU (f := fun q => .slice q.1 1 q.2) (G := (fun (q : Option Addr × Nat) K => Sl (RRequest) 5 K q.1 q.2 ([x5122] : List Request))) (_, _) (fun _ _ _ h x => x.mono (RRequest.mono) h) hl5196)) ?_
            rintro ⟨ad5199, cap5200⟩
            refine DC.turn (α := Option Addr × Nat × List (List Value)) (none, 0, []) (fun q => .slice q.1 ((s5027.2.2.1 ++ ([x5122] : List Request)).length) q.2.1) (fun (q : Option Addr × Nat × List (List Value)) K => Rows (RRequest) 5 K q.2.2 (s5027.2.2.1 ++ ([x5122] : List Request))) (fun q => [(8, Own.list ad5028 cap5029 3 1 (encI .i64) s5027.2.1), (7, Own.rows q.1 q.2.1 63 5 q.2.2 (s5027.2.2.1 ++ ([x5122] : List Request))), (4, Own.list (some ⟨b5119, 0, none⟩) cap1199 3 1 (encI .i64) t1889), (2, cel b1161 133 [.slice ad10 r_2.words.length cap11, .int .i64 r_2.out, .int .i64 r_2.within, .map b1132, .slice ad1129 r1120.1.swaps.length cap1130, .slice ad5030 s5027.2.2.1.length cap5031, .slice ad5028 s5027.2.1.length cap5029, .slice (some ⟨b1159, 0, none⟩) ((List.replicate requests.length (0 : Int)).length) requests.length]), (1, Own.list (some ⟨b1159, 0, none⟩) requests.length 31 1 (encI .i64) (s5027.2.2.2.set x5116.toNat r5134))]) rfl (fun _ _ _ h x => x.mono (RRequest.mono) h) (by kernel_rfl) rfl rfl (fun a w K hS hA hF => TG.pa hS hA (TG.pack (fun K => Sl (RRequest) 5 K ad5199 cap5200 ([x5122] : List Request) ∧ Rows (RRequest) 5 K css5032 s5027.2.2.1) (fun H le => ⟨(hF.1 rfl).mono (RRequest.mono) (le.at 0 rfl), hR5034.mono (RRequest.mono) (le.at 2 rfl)⟩) fun K5205 ⟨hm5206, hR5207⟩ => apR 7 (l := s5027.2.2.1) (m := ([x5122] : List Request)) T4.E64 rfl rfl rfl rfl rfl rfl hm5206 hR5207 RRequest.one rfl hk5201 fun ad5203 cap5204 css5209 hR5208 => finV (f := fun (q : Option Addr × Nat × List (List Value)) => .slice q.1 ((s5027.2.2.1 ++ ([x5122] : List Request)).length) q.2.1) (G := (fun (q : Option Addr × Nat × List (List Value)) K => Rows (RRequest) 5 K q.2.2 (s5027.2.2.1 ++ ([x5122] : List Request)))) (σ1 := fun q => [(8, Own.list ad5028 cap5029 3 1 (encI .i64) s5027.2.1), (7, Own.rows q.1 q.2.1 63 5 q.2.2 (s5027.2.2.1 ++ ([x5122] : List Request))), (4, Own.list (some ⟨b5119, 0, none⟩) cap1199 3 1 (encI .i64) t1889), (2, cel b1161 133 [.slice ad10 r_2.words.length cap11, .int .i64 r_2.out, .int .i64 r_2.within, .map b1132, .slice ad1129 r1120.1.swaps.length cap1130, .slice ad5030 s5027.2.2.1.length cap5031, .slice ad5028 s5027.2.1.length cap5029, .slice (some ⟨b1159, 0, none⟩) ((List.replicate requests.length (0 : Int)).length) requests.length]), (1, Own.list (some ⟨b1159, 0, none⟩) requests.length 31 1 (encI .i64) (s5027.2.2.2.set x5116.toNat r5134))]) (ad5203, cap5204, css5209) (fun _ _ _ h x => x.mono (RRequest.mono) h) hR5208)) ?_
            rintro ⟨ad5203, cap5204, css5209⟩
            refine DC.det (fun τ => τ = [(8, Own.list ad5028 cap5029 3 1 (encI .i64) s5027.2.1), (7, Own.rows ad5203 cap5204 63 5 css5209 (s5027.2.2.1 ++ ([x5122] : List Request))), (4, Own.list (some ⟨b5119, 0, none⟩) cap1199 3 1 (encI .i64) t1889), (2, cel b1161 133 [.slice ad10 r_2.words.length cap11, .int .i64 r_2.out, .int .i64 r_2.within, .map b1132, .slice ad1129 r1120.1.swaps.length cap1130, .slice ad5030 s5027.2.2.1.length cap5031, .slice ad5028 s5027.2.1.length cap5029, .slice (some ⟨b1159, 0, none⟩) ((List.replicate requests.length (0 : Int)).length) requests.length]), (1, Own.list (some ⟨b1159, 0, none⟩) requests.length 31 1 (encI .i64) (s5027.2.2.2.set x5116.toNat r5134))] ∨ τ = [(8, Own.list ad5028 cap5029 3 1 (encI .i64) s5027.2.1), (7, Own.rows ad5030 cap5031 63 5 css5032 s5027.2.2.1), (4, Own.list (some ⟨b5119, 0, none⟩) cap1199 3 1 (encI .i64) t1889), (2, cel b1161 133 [.slice ad10 r_2.words.length cap11, .int .i64 r_2.out, .int .i64 r_2.within, .map b1132, .slice ad1129 r1120.1.swaps.length cap1130, .slice ad5030 s5027.2.2.1.length cap5031, .slice ad5028 s5027.2.1.length cap5029, .slice (some ⟨b1159, 0, none⟩) ((List.replicate requests.length (0 : Int)).length) requests.length]), (1, Own.list (some ⟨b1159, 0, none⟩) requests.length 31 1 (encI .i64) (s5027.2.2.2.set x5116.toNat r5134))]) rfl (.inl rfl) (by kernel_rfl) ⟨.inl (.inr (rfl)), tv⟩ rfl rfl (fun τ hτ a w K hS hA hF => by rcases hτ with rfl | rfl <;> exact TG.pa hS hA (m1 rfl fin1)) ?_
            refine DC.det (fun τ => τ = [(8, Own.list ad5028 cap5029 3 1 (encI .i64) s5027.2.1), (7, Own.rows ad5203 cap5204 63 5 css5209 (s5027.2.2.1 ++ ([x5122] : List Request))), (4, Own.list (some ⟨b5119, 0, none⟩) cap1199 3 1 (encI .i64) t1889), (2, cel b1161 133 [.slice ad10 r_2.words.length cap11, .int .i64 r_2.out, .int .i64 r_2.within, .map b1132, .slice ad1129 r1120.1.swaps.length cap1130, .slice ad5030 s5027.2.2.1.length cap5031, .slice ad5028 s5027.2.1.length cap5029, .slice (some ⟨b1159, 0, none⟩) ((List.replicate requests.length (0 : Int)).length) requests.length]), (1, Own.list (some ⟨b1159, 0, none⟩) requests.length 31 1 (encI .i64) (s5027.2.2.2.set x5116.toNat r5134))] ∨ τ = [(8, Own.list ad5028 cap5029 3 1 (encI .i64) s5027.2.1), (7, Own.rows ad5030 cap5031 63 5 css5032 s5027.2.2.1), (4, Own.list (some ⟨b5119, 0, none⟩) cap1199 3 1 (encI .i64) t1889), (2, cel b1161 133 [.slice ad10 r_2.words.length cap11, .int .i64 r_2.out, .int .i64 r_2.within, .map b1132, .slice ad1129 r1120.1.swaps.length cap1130, .slice ad5030 s5027.2.2.1.length cap5031, .slice ad5028 s5027.2.1.length cap5029, .slice (some ⟨b1159, 0, none⟩) ((List.replicate requests.length (0 : Int)).length) requests.length]), (1, Own.list (some ⟨b1159, 0, none⟩) requests.length 31 1 (encI .i64) (s5027.2.2.2.set x5116.toNat r5134))]) rfl (.inl rfl) (by kernel_rfl) ⟨.inl (.inr (rfl)), tv⟩ rfl rfl (fun τ hτ a w K hS hA hF => by rcases hτ with rfl | rfl <;> exact TG.pa hS hA (nl rfl rfl fin1)) ?_
            refine DC.det (fun τ => τ = [(8, Own.list ad5028 cap5029 3 1 (encI .i64) s5027.2.1), (7, Own.rows ad5203 cap5204 63 5 css5209 (s5027.2.2.1 ++ ([x5122] : List Request))), (4, Own.list (some ⟨b5119, 0, none⟩) cap1199 3 1 (encI .i64) t1889), (2, cel b1161 133 [.slice ad10 r_2.words.length cap11, .int .i64 r_2.out, .int .i64 r_2.within, .map b1132, .slice ad1129 r1120.1.swaps.length cap1130, .slice ad5030 s5027.2.2.1.length cap5031, .slice ad5028 s5027.2.1.length cap5029, .slice (some ⟨b1159, 0, none⟩) ((List.replicate requests.length (0 : Int)).length) requests.length]), (1, Own.list (some ⟨b1159, 0, none⟩) requests.length 31 1 (encI .i64) (s5027.2.2.2.set x5116.toNat r5134))] ∨ τ = [(8, Own.list ad5028 cap5029 3 1 (encI .i64) s5027.2.1), (7, Own.rows ad5030 cap5031 63 5 css5032 s5027.2.2.1), (4, Own.list (some ⟨b5119, 0, none⟩) cap1199 3 1 (encI .i64) t1889), (2, cel b1161 133 [.slice ad10 r_2.words.length cap11, .int .i64 r_2.out, .int .i64 r_2.within, .map b1132, .slice ad1129 r1120.1.swaps.length cap1130, .slice ad5030 s5027.2.2.1.length cap5031, .slice ad5028 s5027.2.1.length cap5029, .slice (some ⟨b1159, 0, none⟩) ((List.replicate requests.length (0 : Int)).length) requests.length]), (1, Own.list (some ⟨b1159, 0, none⟩) requests.length 31 1 (encI .i64) (s5027.2.2.2.set x5116.toNat r5134))]) rfl (.inl rfl) (by kernel_rfl) ⟨.inl (.inr (rfl)), tv⟩ rfl rfl (fun τ hτ a w K hS hA hF => by rcases hτ with rfl | rfl <;> exact TG.pa hS hA (fb 6 U133 rfl rfl rfl rfl Z86 fin1)) ?_
            refine DC.det (fun τ => τ = [(8, Own.list ad5028 cap5029 3 1 (encI .i64) s5027.2.1), (7, Own.rows ad5203 cap5204 63 5 css5209 (s5027.2.2.1 ++ ([x5122] : List Request))), (4, Own.list (some ⟨b5119, 0, none⟩) cap1199 3 1 (encI .i64) t1889), (2, cel b1161 133 [.slice ad10 r_2.words.length cap11, .int .i64 r_2.out, .int .i64 r_2.within, .map b1132, .slice ad1129 r1120.1.swaps.length cap1130, .slice ad5030 s5027.2.2.1.length cap5031, .slice ad5028 s5027.2.1.length cap5029, .slice (some ⟨b1159, 0, none⟩) ((List.replicate requests.length (0 : Int)).length) requests.length]), (1, Own.list (some ⟨b1159, 0, none⟩) requests.length 31 1 (encI .i64) (s5027.2.2.2.set x5116.toNat r5134))] ∨ τ = [(8, Own.list ad5028 cap5029 3 1 (encI .i64) s5027.2.1), (7, Own.rows ad5030 cap5031 63 5 css5032 s5027.2.2.1), (4, Own.list (some ⟨b5119, 0, none⟩) cap1199 3 1 (encI .i64) t1889), (2, cel b1161 133 [.slice ad10 r_2.words.length cap11, .int .i64 r_2.out, .int .i64 r_2.within, .map b1132, .slice ad1129 r1120.1.swaps.length cap1130, .slice ad5030 s5027.2.2.1.length cap5031, .slice ad5028 s5027.2.1.length cap5029, .slice (some ⟨b1159, 0, none⟩) ((List.replicate requests.length (0 : Int)).length) requests.length]), (1, Own.list (some ⟨b1159, 0, none⟩) requests.length 31 1 (encI .i64) (s5027.2.2.2.set x5116.toNat r5134))]) rfl (.inl rfl) (by kernel_rfl) ⟨.inl (.inr (rfl)), tv⟩ rfl rfl (fun τ hτ a w K hS hA hF => by rcases hτ with rfl | rfl <;> exact TG.pa hS hA (ld G86 rfl rfl (((sO 2 rfl).drop 6).take 1) rfl fin1)) ?_
            refine DC.det (fun τ => τ = [(8, Own.list ad5028 cap5029 3 1 (encI .i64) s5027.2.1), (7, Own.rows ad5203 cap5204 63 5 css5209 (s5027.2.2.1 ++ ([x5122] : List Request))), (4, Own.list (some ⟨b5119, 0, none⟩) cap1199 3 1 (encI .i64) t1889), (2, cel b1161 133 [.slice ad10 r_2.words.length cap11, .int .i64 r_2.out, .int .i64 r_2.within, .map b1132, .slice ad1129 r1120.1.swaps.length cap1130, .slice ad5030 s5027.2.2.1.length cap5031, .slice ad5028 s5027.2.1.length cap5029, .slice (some ⟨b1159, 0, none⟩) ((List.replicate requests.length (0 : Int)).length) requests.length]), (1, Own.list (some ⟨b1159, 0, none⟩) requests.length 31 1 (encI .i64) (s5027.2.2.2.set x5116.toNat r5134))] ∨ τ = [(8, Own.list ad5028 cap5029 3 1 (encI .i64) s5027.2.1), (7, Own.rows ad5030 cap5031 63 5 css5032 s5027.2.2.1), (4, Own.list (some ⟨b5119, 0, none⟩) cap1199 3 1 (encI .i64) t1889), (2, cel b1161 133 [.slice ad10 r_2.words.length cap11, .int .i64 r_2.out, .int .i64 r_2.within, .map b1132, .slice ad1129 r1120.1.swaps.length cap1130, .slice ad5030 s5027.2.2.1.length cap5031, .slice ad5028 s5027.2.1.length cap5029, .slice (some ⟨b1159, 0, none⟩) ((List.replicate requests.length (0 : Int)).length) requests.length]), (1, Own.list (some ⟨b1159, 0, none⟩) requests.length 31 1 (encI .i64) (s5027.2.2.2.set x5116.toNat r5134))]) rfl (.inl rfl) (by kernel_rfl) ⟨.inl (.inr (rfl)), tv⟩ rfl rfl (fun τ hτ a w K hS hA hF => by rcases hτ with rfl | rfl <;> exact TG.pa hS hA (m1 rfl fin1)) ?_
            refine DC.und (α := Option Addr × Nat) (none, 0) (fun q => .slice q.1 1 q.2) (fun (q : Option Addr × Nat) K => Sl (Flat (encI .i64)) 1 K q.1 q.2 ([x5116] : List Int)) (fun τ => τ = [(8, Own.list ad5028 cap5029 3 1 (encI .i64) s5027.2.1), (7, Own.rows ad5203 cap5204 63 5 css5209 (s5027.2.2.1 ++ ([x5122] : List Request))), (4, Own.list (some ⟨b5119, 0, none⟩) cap1199 3 1 (encI .i64) t1889), (2, cel b1161 133 [.slice ad10 r_2.words.length cap11, .int .i64 r_2.out, .int .i64 r_2.within, .map b1132, .slice ad1129 r1120.1.swaps.length cap1130, .slice ad5030 s5027.2.2.1.length cap5031, .slice ad5028 s5027.2.1.length cap5029, .slice (some ⟨b1159, 0, none⟩) ((List.replicate requests.length (0 : Int)).length) requests.length]), (1, Own.list (some ⟨b1159, 0, none⟩) requests.length 31 1 (encI .i64) (s5027.2.2.2.set x5116.toNat r5134))] ∨ τ = [(8, Own.list ad5028 cap5029 3 1 (encI .i64) s5027.2.1), (7, Own.rows ad5030 cap5031 63 5 css5032 s5027.2.2.1), (4, Own.list (some ⟨b5119, 0, none⟩) cap1199 3 1 (encI .i64) t1889), (2, cel b1161 133 [.slice ad10 r_2.words.length cap11, .int .i64 r_2.out, .int .i64 r_2.within, .map b1132, .slice ad1129 r1120.1.swaps.length cap1130, .slice ad5030 s5027.2.2.1.length cap5031, .slice ad5028 s5027.2.1.length cap5029, .slice (some ⟨b1159, 0, none⟩) ((List.replicate requests.length (0 : Int)).length) requests.length]), (1, Own.list (some ⟨b1159, 0, none⟩) requests.length 31 1 (encI .i64) (s5027.2.2.2.set x5116.toNat r5134))]) rfl (.inl rfl) (by kernel_rfl) ⟨.inl (.inr (rfl)), tv⟩ (fun _ _ _ h x => x.mono (Flat.mono _) h) (by kernel_rfl) rfl rfl (fun τ hτ a w K hS hA hF => by rcases hτ with rfl | rfl <;> exact TG.pa hS hA (bS (cs := [.int .i64 x5116]) T4.E86 rfl rfl rfl rfl fun q5211 K5212 hq5213 hK5214 => by
              have hl5215 : Sl (Flat (encI .i64)) 1 K5212 (some q5211) 1 ([x5116] : List Int) := Sl.litR (css := [[.int .i64 x5116]]) (l := ([x5116] : List Int)) ⟨⟨rfl, rfl, rfl⟩, tv⟩ hq5213 hK5214 rfl
              have := hl5215.len
              exact finU (f := fun q => .slice q.1 1 q.2) (G := (fun (q : Option Addr × Nat) K => Sl (Flat (encI .i64)) 1 K q.1 q.2 ([x5116] : List Int))) (_, _) (fun _ _ _ h x => x.mono (Flat.mono _) h) hl5215)) ?_
            rintro ⟨ad5217, cap5218⟩
            refine DC.turn (α := Option Addr × Nat) (none, 0) (fun q => .slice q.1 ((s5027.2.1 ++ ([x5116] : List Int)).length) q.2) (fun _ _ => True) (fun q => [(8, Own.list q.1 q.2 3 1 (encI .i64) (s5027.2.1 ++ ([x5116] : List Int))), (7, Own.rows ad5203 cap5204 63 5 css5209 (s5027.2.2.1 ++ ([x5122] : List Request))), (4, Own.list (some ⟨b5119, 0, none⟩) cap1199 3 1 (encI .i64) t1889), (2, cel b1161 133 [.slice ad10 r_2.words.length cap11, .int .i64 r_2.out, .int .i64 r_2.within, .map b1132, .slice ad1129 r1120.1.swaps.length cap1130, .slice ad5030 s5027.2.2.1.length cap5031, .slice ad5028 s5027.2.1.length cap5029, .slice (some ⟨b1159, 0, none⟩) ((List.replicate requests.length (0 : Int)).length) requests.length]), (1, Own.list (some ⟨b1159, 0, none⟩) requests.length 31 1 (encI .i64) (s5027.2.2.2.set x5116.toNat r5134))]) rfl (fun _ _ _ _ h => h) (by kernel_rfl) rfl rfl (fun a w K hS hA hF => TG.pa hS hA (apS 8 (enc := encI .i64) (l := s5027.2.1) (m := ([x5116] : List Int)) T4.E86 rfl rfl rfl rfl rfl rfl (hF.1 rfl) 0 rfl (fun _ => rfl) (fun _ => rfl) rfl hk5219 fun ad5221 cap5222 => finT (f := fun q => .slice q.1 ((s5027.2.1 ++ ([x5116] : List Int)).length) q.2) (G := fun _ _ => True) (σ1 := fun q => [(8, Own.list q.1 q.2 3 1 (encI .i64) (s5027.2.1 ++ ([x5116] : List Int))), (7, Own.rows ad5203 cap5204 63 5 css5209 (s5027.2.2.1 ++ ([x5122] : List Request))), (4, Own.list (some ⟨b5119, 0, none⟩) cap1199 3 1 (encI .i64) t1889), (2, cel b1161 133 [.slice ad10 r_2.words.length cap11, .int .i64 r_2.out, .int .i64 r_2.within, .map b1132, .slice ad1129 r1120.1.swaps.length cap1130, .slice ad5030 s5027.2.2.1.length cap5031, .slice ad5028 s5027.2.1.length cap5029, .slice (some ⟨b1159, 0, none⟩) ((List.replicate requests.length (0 : Int)).length) requests.length]), (1, Own.list (some ⟨b1159, 0, none⟩) requests.length 31 1 (encI .i64) (s5027.2.2.2.set x5116.toNat r5134))]) (_, _) tv)) ?_
            rintro ⟨ad5221, cap5222⟩
            refine DC.nil fun K5223 hF => ?_
            obtain ⟨_, hu5216, hu5210, hu5198, _⟩ := hF
            have := hu5198.len
            have := hu5216.len
            refine nl rfl rfl (fb 5 U133 rfl rfl rfl rfl Z64 (sto 2 (cs := [.slice ad5203 ((s5027.2.2.1 ++ ([x5122] : List Request)).length) cap5204]) Z64 rfl rfl rfl rfl rfl rfl rfl (nl rfl rfl (fb 6 U133 rfl rfl rfl rfl Z86 (sto 2 (cs := [.slice ad5221 ((s5027.2.1 ++ ([x5116] : List Int)).length) cap5222]) Z86 rfl rfl rfl rfl rfl rfl rfl (on ?_))))))
            cases hr5220
            intro a w hS hA
            exact ⟨ad5221, cap5222, ad5203, cap5204, css5209, K5223, hS, hA.cut ⟨rfl, rfl, rfl, rfl, rfl, tv⟩, hu5210⟩
           ·have hr5224 := if_n hc5190 hx5181
            refine sk ?_
            cases hr5224
            intro a w hS hA
            exact ⟨ad5028, cap5029, ad5030, cap5031, css5032, K5033, hS.selH [1, 0, 1, 2, 3, 4, 5, 6, 7, 8, 9, 10, 11] rfl, hA.cut ⟨rfl, rfl, rfl, rfl, rfl, tv⟩, hR5034⟩
          ·rintro a w ⟨ad5183, cap5184, ad5185, cap5186, css5187, K5188, hS, hA, hR5189⟩
           refine TG.ap ?_ hS hA
           refine rg (adI rfl rfl rfl (by omega) (m1 rfl (on ?_)))
           cases hr5182
           intro a w hS hA
           exact ⟨_, hz5037, ad5183, cap5184, ad5185, cap5186, css5187, K5188, hS.selH [0, 3, 4, 5, 6, 7, 8, 9, 10, 11, 12] rfl, hA.cut ⟨rfl, rfl, rfl, rfl, rfl, tv⟩, hR5189, hln5141⟩
         ·have hr5225 := if_n hc5042 hr5036
          refine xt rfl ?_
          cases hr5225
          obtain rfl := Fin.out hz5037
          intro a w hS hA
          exact ⟨ad5028, cap5029, ad5030, cap5031, css5032, K5033, hS, hA.cut ⟨rfl, tv⟩, hR5034, hln5035⟩
       ·rintro a w ⟨ad5019, cap5020, ad5021, cap5022, css5023, K5024, hS, hA, hR5025, hln5026⟩
        refine TG.ap ?_ hS hA
        refine sq (rg (m1 rfl (a1 rfl (a1 rfl (on (rt_ (TG.del 4 (TG.as 2 (z := cel b1161 133 [.slice ad10 r_2.words.length cap11, .int .i64 r_2.out, .int .i64 r_2.within, .map b1132, .slice ad1129 r1120.1.swaps.length cap1130, .slice ad5021 e5016.2.1.length cap5022, .slice ad5019 e5016.1.length cap5020, .slice (some ⟨b1159, 0, none⟩) e5016.2.2.length requests.length]) rfl (by rw [hln5026]) ?_))))))))
        cases hr5018
        intro a w hS hA
        refine ret2 hA rfl rfl rfl ?_
        exact ⟨_, rfl, .inr (⟨_, rfl, b1161, ad5019, cap5020, ad5021, cap5022, css5023, K5024, ad10, cap11, H, .map b1132, K1123, ad1129, cap1130, K1123, (some ⟨b1159, 0, none⟩), requests.length, rfl, hS.selH [0, 10, 3, 3, 7, 8, 9, 10] rfl, hR5025, hl12, hm1128, hl1131⟩)⟩
 ·rintro a w v hA (⟨t1088, rfl, rfl, hS⟩ | ⟨t1089, rfl, b1090, ad1091, cap1092, ad1093, cap1094, css1095, K1096, ad1098, cap1099, K1100, mp1102, K1103, ad1105, cap1106, K1107, ad1109, cap1110, rfl, hS, hR1097, hl1101, hm1104, hl1108⟩)
  ·refine putK rfl hA hS (m1 rfl (ex rfl rfl rfl (ex rfl rfl rfl (va (cs := [.pointer none]) Tryz.zeroValue129 Z129 rfl rfl rfl rfl rfl rfl rfl rfl fun q5226 K5227 hK5228 => (a1 rfl (on (sq (sq (rg (m1 rfl (neI rfl rfl rfl ?_)))))))))))
   refine on ?_
   refine ci rfl (fun hc5232 => ?_) (fun hc5232 => ?_)
   ·have hr5233 := if_p hc5232 hr1087
    refine sq (rg (m1 rfl (a1 rfl (a1 rfl (on (rt_ ?_))))))
    cases hr5233
    intro a w hS hA
    refine ret2 hA rfl rfl rfl ?_
    exact ⟨⟨_, _, rfl, (Sl.nil _ _ _ _ _ (by decide))⟩, hS.ext⟩
   ·have hr5234 := if_n hc5232 hr1087
    refine sk (sq (rg (ld G129 rfl rfl (sS 0 rfl hK5228) rfl ?_)))
    cases hr5234
  ·have := hl1101.len
   have := hl1108.len
   refine putK rfl hA hS (m1 rfl (ex rfl rfl rfl (ex rfl rfl rfl (va (cs := [.pointer (some (⟨b1090, 0, none⟩))]) Tryz.zeroValue129 Z129 rfl rfl rfl rfl rfl rfl rfl rfl fun q5235 K5236 hK5237 => (a1 rfl (on (sq (sq (rg (m1 rfl (neI rfl rfl rfl ?_)))))))))))
   refine on (cF rfl ((rfl : decide ((0 : Int) ≠ (0 : Int)) = false)) (sk (sq (rg (ld G129 rfl rfl (sS 0 rfl hK5237) rfl (nl rfl rfl (fb 6 U133 rfl rfl rfl rfl Z86 (ld G86 rfl rfl (((sO 2 rfl).drop 6).take 1) rfl (fn rfl rfl rfl ?_)))))))))
   obtain ⟨l5238, hx5239, hr5240⟩ := bd_some hr1087
   have hln5241 : l5238.length = t1089.1.length := (sortO_len hx5239)
   refine srt1 8 (enc := encI .i64) (V := Vi .i64) (V' := Vi .i64) (Value.int .i64) (fun _ => rfl) (fun _ => rfl) Tryz.srt64 C64 rfl rfl rfl rfl rfl rfl (fun H le => ⟨65, [], [.pointer (some q19)], rfl, C65, fun w_ K_ args_ v_ hK hw hs => by obtain ⟨u0_, u1_, x0_, x1_, r_, rfl, h0_, h1_, hx, rfl⟩ := hs; cases h0_; cases h1_; exact w65 (H := K_) hw  x0_ x1_ (f0_ := requests) (hK21.mono ((le.at 5 rfl).trans hK)) (h_requests.mono (RRequest.mono) ((le.at 8 rfl).trans hK)) hx⟩) (fun _ _ => rfl) (fun _ _ => rfl) hx5239 (on (sq (rg (al 9 (cs := [.slice none 0 0]) Tryz.zeroValue91 rfl rfl fun b5242 => (on (sq (rg (al 10 (cs := [.int .i64 0]) Tryz.zeroValue3 rfl rfl fun b5243 => (sto 10 (cs := [.int .i64 0]) Z3 rfl rfl rfl rfl rfl rfl rfl (on (sq ?_)))))))))))
   refine rg (fn rfl rfl rfl (a1 rfl (on (sq (sq (rg (ld G129 rfl rfl (sS 0 rfl hK5237) rfl (nl rfl rfl (fb 6 U133 rfl rfl rfl rfl Z86 (ld G86 rfl rfl (((sO 2 rfl).drop 6).take 1) rfl (TG.len 8 rfl fun _ => ?_)))))))))))
   refine lnL U86 rfl rfl (m1 rfl (on (TG.nilRow 13 98 3 ?_)))
   have hR5455 : Rows (RSegment) 3 H [] ([] : List Segment) := tv
   refine TG.as 13 (z := Own.rows none 0 98 3 [] ([] : List Segment)) rfl rfl ?_
   obtain ⟨e5842, hl5843, hr5844⟩ := bd_some hr5240
   refine jn (fun a w => ∃ (ad5845 : Option Addr) (cap5846 : Nat) (css5847 : List (List Value)) (K5848 : Hp), St M W H [K5848, K5236, K1096, K1100, K1103, K1107, K20, K17, K14, H] [(13, Own.rows ad5845 cap5846 98 3 css5847 e5842.2), (10, cel b5243 3 [.int .i64 e5842.1]), (9, cel b5242 91 [.slice ad5845 e5842.2.length cap5846]), (8, Own.list ad1091 cap1092 3 1 (encI .i64) l5238), (7, Own.rows ad1093 cap1094 63 5 css1095 t1089.2.1), (2, cel b1090 133 [.slice ad1098 t1089.2.2.1.length cap1099, .int .i64 r_2.out, .int .i64 r_2.within, mp1102, .slice ad1105 t1089.2.2.2.2.1.length cap1106, .slice ad1093 t1089.2.1.length cap1094, .slice ad1091 t1089.1.length cap1092, .slice ad1109 t1089.2.2.2.2.2.length cap1110]), (1, Own.list ad1109 cap1110 31 1 (encI .i64) t1089.2.2.2.2.2)] w ∧ Has [] 79 a [(6, .pointer (some q16)), (12, .pointer (some (⟨b5242, 0, none⟩))), (14, .func (.func 67) [].toArray [.pointer (some (⟨b5243, 0, none⟩)), .pointer (some (⟨b5242, 0, none⟩)), .pointer (some q5235)].toArray)] ∧ Rows (RSegment) 3 K5848 css5847 e5842.2) ?_ ?_
   ·refine bk ?_
    refine lp hl5843 (fun s5850 a w => ∃ (ad5851 : Option Addr) (cap5852 : Nat) (css5853 : List (List Value)) (K5854 : Hp), St M W H [K5854, K5236, K1096, K1100, K1103, K1107, K20, K17, K14, H] [(13, Own.rows ad5851 cap5852 98 3 css5853 s5850.2.2), (10, cel b5243 3 [.int .i64 s5850.2.1]), (9, cel b5242 91 [.slice ad5851 s5850.2.2.length cap5852]), (8, Own.list ad1091 cap1092 3 1 (encI .i64) l5238), (7, Own.rows ad1093 cap1094 63 5 css1095 t1089.2.1), (2, cel b1090 133 [.slice ad1098 t1089.2.2.1.length cap1099, .int .i64 r_2.out, .int .i64 r_2.within, mp1102, .slice ad1105 t1089.2.2.2.2.1.length cap1106, .slice ad1093 t1089.2.1.length cap1094, .slice ad1091 t1089.1.length cap1092, .slice ad1109 t1089.2.2.2.2.2.length cap1110]), (1, Own.list ad1109 cap1110 31 1 (encI .i64) t1089.2.2.2.2.2)] w ∧ Has [] 79 a [(6, .pointer (some q16)), (7, .pointer (some q19)), (10, .pointer (some q5235)), (12, .pointer (some (⟨b5242, 0, none⟩))), (13, .pointer (some (⟨b5243, 0, none⟩))), (14, .func (.func 67) [].toArray [.pointer (some (⟨b5243, 0, none⟩)), .pointer (some (⟨b5242, 0, none⟩)), .pointer (some q5235)].toArray), (39, .slice ad1091 t1089.1.length cap1092), (40, .int .i64 (t1089.1.length : Int)), (41, .int .i64 (s5850.1 : Int))] ∧ Rows (RSegment) 3 K5854 css5853 s5850.2.2) ?_ ?_
    ·intro a w hS hA
     exact ⟨none, 0, [], H, hS.selH [8, 0, 1, 2, 3, 4, 5, 6, 7, 8] rfl, hA.cut ⟨rfl, rfl, rfl, rfl, rfl, rfl, rfl, rfl, rfl, tv⟩, hR5455⟩
    ·rintro j s5850 y5858 hr5856 hz5857 a w ⟨ad5851, cap5852, css5853, K5854, hS, hA, hR5855⟩
     refine TG.ap ?_ hS hA
     unfold m42_10 at hr5856
     refine sq (rg (ltI rfl rfl rfl (on (sq ?_))))
     refine ci rfl (fun hc5862 => ?_) (fun hc5862 => ?_)
     ·have hr5863 := if_p hc5862 hr5856
      refine sk (sq (bk (sq (rg ?_))))
      obtain ⟨x5982, hx5983, hr5984⟩ := bd_some hr5863
      refine TG.addr 8 rfl (lt_of0 hx5983) fun b5985 h => ?_; subst h
      refine iaP U86 Z3 rfl rfl rfl rfl (Nat.lt_of_lt_of_eq (lt_of hx5983) hln5241) (ld G3 rfl rfl (sE 8 rfl (fun _ => rfl) hx5983) rfl (a1 rfl (on (sq (rg (ld G64 rfl rfl (sS 6 rfl hK21) rfl (m1 rfl ?_)))))))
      obtain ⟨hk5986, hr5987⟩ := chk_some hr5984
      obtain ⟨x5988, hx5989, hr5990⟩ := bd_some hr5987
      obtain ⟨p5991, rfl⟩ := h_requests.adr hx5989
      obtain ⟨cs5992, hcs5993, hq5994, hr5995⟩ := h_requests.at hx5989
      have hr5996 := hr5995
      obtain ⟨ad5997, cap5998, rfl, hl5999⟩ := hr5995
      have := hl5999.len
      refine iaP U64 Z63 rfl rfl rfl (by omega) (lt_of hx5989) (ldA G63 Z63 rfl rfl (sS 9 rfl hq5994) rfl (va (cs := [.int .i64 x5988.by_, .int .i64 x5988.minute, .int .i64 x5988.from_, .int .i64 x5988.cut, .slice ad5997 x5988.put_.length cap5998]) Tryz.zeroValue63 Z63 rfl rfl rfl rfl rfl rfl rfl rfl fun q6000 K6001 hK6002 => (on (sq (rg (m1 rfl (fb 2 U63 rfl rfl rfl rfl Z3 (ld G3 rfl rfl (((sS 0 rfl hK6002).drop 2).take 1) rfl ?_))))))))
      obtain ⟨t6049, hx6050, hr6051⟩ := bd_some hr5990
      refine clI C67 Tryz.func67 rfl Tryz.ntmps67 rfl rfl rfl rfl (fun v w => (∃ (ad6052 : Option Addr) (cap6053 : Nat) (css6054 : List (List Value)) (K6055 : Hp), v = .tuple #[] ∧ St M W H [K6055, K6001, K5854, K5236, K1096, K1100, K1103, K1107, K20, K17, K14, H] [(13, Own.rows ad6052 cap6053 98 3 css6054 t6049), (10, cel b5243 3 [.int .i64 s5850.2.1]), (9, cel b5242 91 [.slice ad6052 t6049.length cap6053]), (8, Own.list (some ⟨b5985, 0, none⟩) cap1092 3 1 (encI .i64) l5238), (7, Own.rows ad1093 cap1094 63 5 css1095 t1089.2.1), (2, cel b1090 133 [.slice ad1098 t1089.2.2.1.length cap1099, .int .i64 r_2.out, .int .i64 r_2.within, mp1102, .slice ad1105 t1089.2.2.2.2.1.length cap1106, .slice ad1093 t1089.2.1.length cap1094, .slice (some ⟨b5985, 0, none⟩) t1089.1.length cap1092, .slice ad1109 t1089.2.2.2.2.2.length cap1110]), (1, Own.list ad1109 cap1110 31 1 (encI .i64) t1089.2.2.2.2.2)] w ∧ Rows (RSegment) 3 K6055 css6054 t6049)) ?_ ?_
      ·refine sq (rg (ld G3 rfl rfl (sO 10 rfl) rfl (m1 rfl (ltI rfl rfl rfl (on ?_)))))
       obtain ⟨t6097, hx6098, hr6099⟩ := bd_some hx6050
       refine jn (fun a w => ∃ (ad6100 : Option Addr) (cap6101 : Nat) (css6102 : List (List Value)) (K6103 : Hp), St M W H [K6103, K6001, K5854, K5236, K1096, K1100, K1103, K1107, K20, K17, K14, H] [(13, Own.rows ad6100 cap6101 98 3 css6102 t6097), (10, cel b5243 3 [.int .i64 s5850.2.1]), (9, cel b5242 91 [.slice ad6100 t6097.length cap6101]), (8, Own.list (some ⟨b5985, 0, none⟩) cap1092 3 1 (encI .i64) l5238), (7, Own.rows ad1093 cap1094 63 5 css1095 t1089.2.1), (2, cel b1090 133 [.slice ad1098 t1089.2.2.1.length cap1099, .int .i64 r_2.out, .int .i64 r_2.within, mp1102, .slice ad1105 t1089.2.2.2.2.1.length cap1106, .slice ad1093 t1089.2.1.length cap1094, .slice (some ⟨b5985, 0, none⟩) t1089.1.length cap1092, .slice ad1109 t1089.2.2.2.2.2.length cap1110]), (1, Own.list ad1109 cap1110 31 1 (encI .i64) t1089.2.2.2.2.2)] w ∧ Has [] 26 a [] ∧ Rows (RSegment) 3 K6103 css6102 t6097) ?_ ?_
       ·refine ci rfl (fun hc6105 => ?_) (fun hc6105 => ?_)
        ·have hr6106 := if_p hc6105 hx6098
         obtain ⟨r6107, hx6108, hr6109⟩ := bd_some hr6106
         refine drG 17 mixed (by kernel_rfl) rfl (dt rfl (ld G91 rfl rfl (sO 9 rfl) rfl fin1) (dt rfl (ld G129 rfl rfl (sS 3 rfl hK5237) rfl fin1) (dt rfl (nl rfl rfl fin1) (dt rfl (fb 0 U133 rfl rfl rfl rfl Z56 fin1) (dt rfl (ldA G56 Z56 rfl rfl ((sO 2 rfl).take 3) rfl fin1) (dt rfl (ld G3 rfl rfl (sO 10 rfl) rfl fin1) (dt rfl (m1 rfl fin1) ?_)))))))
         refine DF.und (α := Option Addr × Nat) (none, 0) (fun q => .slice q.1 r6107.length q.2) (fun (q : Option Addr × Nat) K => Sl (Flat encS) 1 K q.1 q.2 r6107) (fun _ _ _ h x => x.mono (Flat.mono _) h) (by kernel_rfl) rfl (fun a w K hS hA hF => TG.pa hS hA (clK C68 rfl rfl rfl rfl (fun w H hH le => w68 hH (⟨t1089.2.2.1, r_2.out, r_2.within⟩ : Report) ⟨_, _, rfl, (hl1101.mono (Flat.mono _) (le.at 5 rfl))⟩ s5850.2.1 x5988.from_ hx6108) (by
           rintro v_ K6110 ⟨ad6111, cap6112, rfl, hl6113⟩
           exact finU (f := fun q => .slice q.1 r6107.length q.2) (G := (fun (q : Option Addr × Nat) K => Sl (Flat encS) 1 K q.1 q.2 r6107)) (_, _) (fun _ _ _ h x => x.mono (Flat.mono _) h) hl6113))) ?_
         rintro ⟨ad6115, cap6116⟩
         refine dt rfl (ld G129 rfl rfl (sS 3 rfl hK5237) rfl fin1) (dt rfl (nl rfl rfl fin1) (dt rfl (fb 0 U133 rfl rfl rfl rfl Z56 fin1) (dt rfl (ldA G56 Z56 rfl rfl ((sO 2 rfl).take 3) rfl fin1) (dt rfl (ld G3 rfl rfl (sO 10 rfl) rfl fin1) (dt rfl (m1 rfl fin1) ?_)))))
         refine DF.und (α := Option Addr × Nat) (none, 0) (fun q => .slice q.1 r6107.length q.2) (fun (q : Option Addr × Nat) K => Sl (Flat encS) 1 K q.1 q.2 r6107) (fun _ _ _ h x => x.mono (Flat.mono _) h) (by kernel_rfl) rfl (fun a w K hS hA hF => TG.pa hS hA (clK C68 rfl rfl rfl rfl (fun w H hH le => w68 hH (⟨t1089.2.2.1, r_2.out, r_2.within⟩ : Report) ⟨_, _, rfl, (hl1101.mono (Flat.mono _) (le.at 5 rfl))⟩ s5850.2.1 x5988.from_ hx6108) (by
           rintro v_ K6117 ⟨ad6118, cap6119, rfl, hl6120⟩
           exact finU (f := fun q => .slice q.1 r6107.length q.2) (G := (fun (q : Option Addr × Nat) K => Sl (Flat encS) 1 K q.1 q.2 r6107)) (_, _) (fun _ _ _ h x => x.mono (Flat.mono _) h) hl6120))) ?_
         rintro ⟨ad6122, cap6123⟩
         refine DF.und () (fun _ => .agg [.slice ad6115 r6107.length cap6116, .slice ad6122 r6107.length cap6123, .int .i64 (-1)].toArray) (fun _ K => Sl (Flat encS) 1 K ad6115 cap6116 r6107 ∧ Sl (Flat encS) 1 K ad6122 cap6123 r6107) (fun _ _ _ h x => ⟨x.1.mono (Flat.mono _) h, x.2.mono (Flat.mono _) h⟩) (by kernel_rfl) rfl (fun a w K hS hA hF => TG.pa hS hA (bu (cs := [.slice ad6115 r6107.length cap6116, .slice ad6122 r6107.length cap6123, .int .i64 (-1)]) T4.B98 rfl rfl rfl (finF (f := fun _ => .agg [.slice ad6115 r6107.length cap6116, .slice ad6122 r6107.length cap6123, .int .i64 (-1)].toArray) (G := fun _ K => Sl (Flat encS) 1 K ad6115 cap6116 r6107 ∧ Sl (Flat encS) 1 K ad6122 cap6123 r6107) () ⟨(hF.2.1 rfl), (hF.1 rfl)⟩))) fun _ => ?_
         refine DF.und (α := Option Addr × Nat) (none, 0) (fun q => .slice q.1 1 q.2) (fun (q : Option Addr × Nat) K => Sl (RSegment) 3 K q.1 q.2 ([(⟨r6107, r6107, (-1)⟩ : Segment)] : List Segment)) (fun _ _ _ h x => x.mono (RSegment.mono) h) (by kernel_rfl) rfl (fun a w K hS hA hF => TG.pa hS hA (bS (cs := [.slice ad6115 r6107.length cap6116, .slice ad6122 r6107.length cap6123, .int .i64 (-1)]) T4.E91 rfl rfl rfl rfl fun q6125 K6126 hq6127 hK6128 => by
           refine TG.pack (fun K => Sl (RSegment) 3 K (some q6125) 1 ([(⟨r6107, r6107, (-1)⟩ : Segment)] : List Segment)) (fun H le => Sl.litR (css := [[.slice ad6115 r6107.length cap6116, .slice ad6122 r6107.length cap6123, .int .i64 (-1)]]) (l := ([(⟨r6107, r6107, (-1)⟩ : Segment)] : List Segment)) ⟨⟨rfl, rfl, ⟨_, _, _, _, rfl, ((hF.1 rfl).1.mono (Flat.mono _) (le.at 1 rfl)), ((hF.1 rfl).2.mono (Flat.mono _) (le.at 1 rfl))⟩⟩, tv⟩ hq6127 (hK6128.mono (le.at 0 rfl)) rfl) fun K6130 hl6129 => ?_
           have := hl6129.len
           refine sk1 ?_
           exact finU (f := fun q => .slice q.1 1 q.2) (G := (fun (q : Option Addr × Nat) K => Sl (RSegment) 3 K q.1 q.2 ([(⟨r6107, r6107, (-1)⟩ : Segment)] : List Segment))) (_, _) (fun _ _ _ h x => x.mono (RSegment.mono) h) hl6129)) ?_
         rintro ⟨ad6132, cap6133⟩
         refine DF.nil fun K6134 hF => ?_
         obtain ⟨hu6131, hu6124, hu6121, hu6114, _⟩ := hF
         have := hu6114.len
         have := hu6121.len
         have := hu6131.len
         obtain ⟨hk6135, hr6136⟩ := chk_some hr6109
         have := lenA s5850.2.2 ([(⟨r6107, r6107, (-1)⟩ : Segment)] : List Segment)
         refine TG.pack (fun K => Sl (RSegment) 3 K ad6132 cap6133 ([(⟨r6107, r6107, (-1)⟩ : Segment)] : List Segment) ∧ Rows (RSegment) 3 K css5853 s5850.2.2) (fun H le => ⟨hu6131.mono (RSegment.mono) (le.at 0 rfl), hR5855.mono (RSegment.mono) (le.at 2 rfl)⟩) fun K6139 ⟨hm6140, hR6141⟩ => (apR 13 (l := s5850.2.2) (m := ([(⟨r6107, r6107, (-1)⟩ : Segment)] : List Segment)) T4.E91 rfl rfl rfl rfl rfl rfl hm6140 hR6141 RSegment.one rfl hk6135 fun ad6137 cap6138 css6143 hR6142 => (sto 9 (cs := [.slice ad6137 ((s5850.2.2 ++ ([(⟨r6107, r6107, (-1)⟩ : Segment)] : List Segment)).length) cap6138]) Z91 rfl rfl rfl rfl rfl rfl rfl (on ?_)))
         cases hr6136
         intro a w hS hA
         exact ⟨ad6137, cap6138, css6143, K6139, hS.selH [0, 2, 3, 4, 5, 6, 7, 8, 9, 10, 11, 12] rfl, hA.cut tv, hR6142⟩
        ·have hr6144 := if_n hc6105 hx6098
         refine sk ?_
         cases hr6144
         intro a w hS hA
         exact ⟨ad5851, cap5852, css5853, K5854, hS.selH [1, 0, 1, 2, 3, 4, 5, 6, 7, 8, 9, 10] rfl, hA.cut tv, hR5855⟩
       ·rintro a w ⟨ad6100, cap6101, css6102, K6103, hS, hA, hR6104⟩
        refine TG.ap ?_ hS hA
        cases hr6099
        intro a w hS hA
        refine ret0 hA rfl ?_
        exact ⟨_, rfl, ⟨ad6100, cap6101, css6102, K6103, rfl, hS, hR6104⟩⟩
      ·rintro a w v hA (⟨ad6052, cap6053, css6054, K6055, rfl, hS, hR6056⟩)
       refine putK rfl hA hS (on (sq ?_))
       obtain ⟨r6145, hx6146, hr6147⟩ := bd_some hr6051
       obtain ⟨r6148, hx6149, hr6150⟩ := bd_some hr6147
       obtain ⟨r6158, hx6159, hr6160⟩ := bd_some hr6150
       refine drG 16 mixed (by kernel_rfl) rfl (dt rfl (ld G91 rfl rfl (sO 9 rfl) rfl fin1) (dt rfl (ld G129 rfl rfl (sS 4 rfl hK5237) rfl fin1) (dt rfl (nl rfl rfl fin1) (dt rfl (fb 0 U133 rfl rfl rfl rfl Z56 fin1) (dt rfl (ldA G56 Z56 rfl rfl ((sO 2 rfl).take 3) rfl fin1) (dt rfl (fb 2 U63 rfl rfl rfl rfl Z3 fin1) (dt rfl (ld G3 rfl rfl (((sS 2 rfl hK6002).drop 2).take 1) rfl fin1) (dt rfl (ldA G63 Z63 rfl rfl (sS 2 rfl hK6002) rfl fin1) (dt rfl (clS C69 rfl rfl rfl rfl (fun w H hH le => w69 hH x5988 (RRequest.mono _ _ _ _ (le.at 12 rfl) hr5996) hx6146) fin1) ?_)))))))))
       refine DF.und (α := Option Addr × Nat) (none, 0) (fun q => .slice q.1 r6148.length q.2) (fun (q : Option Addr × Nat) K => Sl (Flat encS) 1 K q.1 q.2 r6148) (fun _ _ _ h x => x.mono (Flat.mono _) h) (by kernel_rfl) rfl (fun a w K hS hA hF => TG.pa hS hA (clK C68 rfl rfl rfl rfl (fun w H hH le => w68 hH (⟨t1089.2.2.1, r_2.out, r_2.within⟩ : Report) ⟨_, _, rfl, (hl1101.mono (Flat.mono _) (le.at 6 rfl))⟩ x5988.from_ r6145 hx6149) (by
         rintro v_ K6151 ⟨ad6152, cap6153, rfl, hl6154⟩
         exact finU (f := fun q => .slice q.1 r6148.length q.2) (G := (fun (q : Option Addr × Nat) K => Sl (Flat encS) 1 K q.1 q.2 r6148)) (_, _) (fun _ _ _ h x => x.mono (Flat.mono _) h) hl6154))) ?_
       rintro ⟨ad6156, cap6157⟩
       refine dt rfl (fb 4 U63 rfl rfl rfl rfl Z24 fin1) (dt rfl (ld G24 rfl rfl ((sS 2 rfl hK6002).drop 4) rfl fin1) ?_)
       refine DF.und (α := Option Addr × Nat) (none, 0) (fun q => .slice q.1 r6158.length q.2) (fun (q : Option Addr × Nat) K => Sl (Flat encS) 1 K q.1 q.2 r6158) (fun _ _ _ h x => x.mono (Flat.mono _) h) (by kernel_rfl) rfl (fun a w K hS hA hF => TG.pa hS hA (clK C70 rfl rfl rfl rfl (fun w H hH le => w70 hH (hl5999.mono (Flat.mono _) (le.at 12 rfl)) hx6159) (by
         rintro v_ K6161 ⟨ad6162, cap6163, rfl, hl6164⟩
         exact finU (f := fun q => .slice q.1 r6158.length q.2) (G := (fun (q : Option Addr × Nat) K => Sl (Flat encS) 1 K q.1 q.2 r6158)) (_, _) (fun _ _ _ h x => x.mono (Flat.mono _) h) hl6164))) ?_
       rintro ⟨ad6166, cap6167⟩
       refine dt rfl (m1 rfl fin1) (DF.und () (fun _ => .agg [.slice ad6156 r6148.length cap6157, .slice ad6166 r6158.length cap6167, .int .i64 x5982].toArray) (fun _ K => Sl (Flat encS) 1 K ad6156 cap6157 r6148 ∧ Sl (Flat encS) 1 K ad6166 cap6167 r6158) (fun _ _ _ h x => ⟨x.1.mono (Flat.mono _) h, x.2.mono (Flat.mono _) h⟩) (by kernel_rfl) rfl (fun a w K hS hA hF => TG.pa hS hA (bu (cs := [.slice ad6156 r6148.length cap6157, .slice ad6166 r6158.length cap6167, .int .i64 x5982]) T4.B98 rfl rfl rfl (finF (f := fun _ => .agg [.slice ad6156 r6148.length cap6157, .slice ad6166 r6158.length cap6167, .int .i64 x5982].toArray) (G := fun _ K => Sl (Flat encS) 1 K ad6156 cap6157 r6148 ∧ Sl (Flat encS) 1 K ad6166 cap6167 r6158) () ⟨(hF.2.1 rfl), (hF.1 rfl)⟩))) fun _ => ?_)
       refine DF.und (α := Option Addr × Nat) (none, 0) (fun q => .slice q.1 1 q.2) (fun (q : Option Addr × Nat) K => Sl (RSegment) 3 K q.1 q.2 ([(⟨r6148, r6158, x5982⟩ : Segment)] : List Segment)) (fun _ _ _ h x => x.mono (RSegment.mono) h) (by kernel_rfl) rfl (fun a w K hS hA hF => TG.pa hS hA (bS (cs := [.slice ad6156 r6148.length cap6157, .slice ad6166 r6158.length cap6167, .int .i64 x5982]) T4.E91 rfl rfl rfl rfl fun q6169 K6170 hq6171 hK6172 => by
         refine TG.pack (fun K => Sl (RSegment) 3 K (some q6169) 1 ([(⟨r6148, r6158, x5982⟩ : Segment)] : List Segment)) (fun H le => Sl.litR (css := [[.slice ad6156 r6148.length cap6157, .slice ad6166 r6158.length cap6167, .int .i64 x5982]]) (l := ([(⟨r6148, r6158, x5982⟩ : Segment)] : List Segment)) ⟨⟨rfl, rfl, ⟨_, _, _, _, rfl, ((hF.1 rfl).1.mono (Flat.mono _) (le.at 1 rfl)), ((hF.1 rfl).2.mono (Flat.mono _) (le.at 1 rfl))⟩⟩, tv⟩ hq6171 (hK6172.mono (le.at 0 rfl)) rfl) fun K6174 hl6173 => ?_
         have := hl6173.len
         refine sk1 ?_
         exact finU (f := fun q => .slice q.1 1 q.2) (G := (fun (q : Option Addr × Nat) K => Sl (RSegment) 3 K q.1 q.2 ([(⟨r6148, r6158, x5982⟩ : Segment)] : List Segment))) (_, _) (fun _ _ _ h x => x.mono (RSegment.mono) h) hl6173)) ?_
       rintro ⟨ad6176, cap6177⟩
       refine DF.nil fun K6178 hF => ?_
       obtain ⟨hu6175, hu6168, hu6165, hu6155, _⟩ := hF
       have := hu6155.len
       have := hu6165.len
       have := hu6175.len
       obtain ⟨hk6179, hr6180⟩ := chk_some hr6160
       have := lenA t6049 ([(⟨r6148, r6158, x5982⟩ : Segment)] : List Segment)
       refine TG.pack (fun K => Sl (RSegment) 3 K ad6176 cap6177 ([(⟨r6148, r6158, x5982⟩ : Segment)] : List Segment) ∧ Rows (RSegment) 3 K css6054 t6049) (fun H le => ⟨hu6175.mono (RSegment.mono) (le.at 0 rfl), hR6056.mono (RSegment.mono) (le.at 1 rfl)⟩) fun K6183 ⟨hm6184, hR6185⟩ => (apR 13 (l := t6049) (m := ([(⟨r6148, r6158, x5982⟩ : Segment)] : List Segment)) T4.E91 rfl rfl rfl rfl rfl rfl hm6184 hR6185 RSegment.one rfl hk6179 fun ad6181 cap6182 css6187 hR6186 => (sto 9 (cs := [.slice ad6181 ((t6049 ++ ([(⟨r6148, r6158, x5982⟩ : Segment)] : List Segment)).length) cap6182]) Z91 rfl rfl rfl rfl rfl rfl rfl (on (rg (ldA G63 Z63 rfl rfl (sS 3 rfl hK6002) rfl (clS C69 rfl rfl rfl rfl (fun w H hH le => w69 hH x5988 (RRequest.mono _ _ _ _ (le.at 13 rfl) hr5996) hx6146) (sto 10 (cs := [.int .i64 r6145]) Z3 rfl rfl rfl rfl rfl rfl rfl (on (rg (adI rfl rfl rfl (by omega) (m1 rfl ?_)))))))))))
       refine on ?_
       cases hr6180
       intro a w hS hA
       exact ⟨_, hz5857, ad6181, cap6182, css6187, K6183, hS.selH [0, 5, 6, 7, 8, 9, 10, 11, 12, 13] rfl, hA.cut ⟨rfl, rfl, rfl, rfl, rfl, rfl, rfl, rfl, rfl, tv⟩, hR6186⟩
     ·have hr6188 := if_n hc5862 hr5856
      refine xt rfl ?_
      cases hr6188
      obtain rfl := Fin.out hz5857
      intro a w hS hA
      exact ⟨ad5851, cap5852, css5853, K5854, hS, hA.cut ⟨rfl, rfl, rfl, tv⟩, hR5855⟩
   ·rintro a w ⟨ad5845, cap5846, css5847, K5848, hS, hA, hR5849⟩
    refine TG.ap ?_ hS hA
    refine sq (rg (m1 rfl (fb 0 U56 rfl rfl rfl rfl Z54 (ld G54 rfl rfl ((sS 7 rfl hK18).take 1) rfl (lnL U54 rfl rfl ?_)))))
    obtain ⟨t6235, hx6236, hr6237⟩ := bd_some hr5844
    refine clI C67 Tryz.func67 rfl Tryz.ntmps67 rfl rfl rfl rfl (fun v w => (∃ (ad6238 : Option Addr) (cap6239 : Nat) (css6240 : List (List Value)) (K6241 : Hp), v = .tuple #[] ∧ St M W H [K6241, K5848, K5236, K1096, K1100, K1103, K1107, K20, K17, K14, H] [(13, Own.rows ad6238 cap6239 98 3 css6240 t6235), (10, cel b5243 3 [.int .i64 e5842.1]), (9, cel b5242 91 [.slice ad6238 t6235.length cap6239]), (8, Own.list ad1091 cap1092 3 1 (encI .i64) l5238), (7, Own.rows ad1093 cap1094 63 5 css1095 t1089.2.1), (2, cel b1090 133 [.slice ad1098 t1089.2.2.1.length cap1099, .int .i64 r_2.out, .int .i64 r_2.within, mp1102, .slice ad1105 t1089.2.2.2.2.1.length cap1106, .slice ad1093 t1089.2.1.length cap1094, .slice ad1091 t1089.1.length cap1092, .slice ad1109 t1089.2.2.2.2.2.length cap1110]), (1, Own.list ad1109 cap1110 31 1 (encI .i64) t1089.2.2.2.2.2)] w ∧ Rows (RSegment) 3 K6241 css6240 t6235)) ?_ ?_
    ·refine sq (rg (ld G3 rfl rfl (sO 10 rfl) rfl (m1 rfl (ltI rfl rfl rfl (on ?_)))))
     obtain ⟨t6283, hx6284, hr6285⟩ := bd_some hx6236
     refine jn (fun a w => ∃ (ad6286 : Option Addr) (cap6287 : Nat) (css6288 : List (List Value)) (K6289 : Hp), St M W H [K6289, K5848, K5236, K1096, K1100, K1103, K1107, K20, K17, K14, H] [(13, Own.rows ad6286 cap6287 98 3 css6288 t6283), (10, cel b5243 3 [.int .i64 e5842.1]), (9, cel b5242 91 [.slice ad6286 t6283.length cap6287]), (8, Own.list ad1091 cap1092 3 1 (encI .i64) l5238), (7, Own.rows ad1093 cap1094 63 5 css1095 t1089.2.1), (2, cel b1090 133 [.slice ad1098 t1089.2.2.1.length cap1099, .int .i64 r_2.out, .int .i64 r_2.within, mp1102, .slice ad1105 t1089.2.2.2.2.1.length cap1106, .slice ad1093 t1089.2.1.length cap1094, .slice ad1091 t1089.1.length cap1092, .slice ad1109 t1089.2.2.2.2.2.length cap1110]), (1, Own.list ad1109 cap1110 31 1 (encI .i64) t1089.2.2.2.2.2)] w ∧ Has [] 26 a [] ∧ Rows (RSegment) 3 K6289 css6288 t6283) ?_ ?_
     ·refine ci rfl (fun hc6291 => ?_) (fun hc6291 => ?_)
      ·have hr6292 := if_p hc6291 hx6284
       obtain ⟨r6293, hx6294, hr6295⟩ := bd_some hr6292
       refine drG 17 mixed (by kernel_rfl) rfl (dt rfl (ld G91 rfl rfl (sO 9 rfl) rfl fin1) (dt rfl (ld G129 rfl rfl (sS 2 rfl hK5237) rfl fin1) (dt rfl (nl rfl rfl fin1) (dt rfl (fb 0 U133 rfl rfl rfl rfl Z56 fin1) (dt rfl (ldA G56 Z56 rfl rfl ((sO 2 rfl).take 3) rfl fin1) (dt rfl (ld G3 rfl rfl (sO 10 rfl) rfl fin1) (dt rfl (m1 rfl fin1) ?_)))))))
       refine DF.und (α := Option Addr × Nat) (none, 0) (fun q => .slice q.1 r6293.length q.2) (fun (q : Option Addr × Nat) K => Sl (Flat encS) 1 K q.1 q.2 r6293) (fun _ _ _ h x => x.mono (Flat.mono _) h) (by kernel_rfl) rfl (fun a w K hS hA hF => TG.pa hS hA (clK C68 rfl rfl rfl rfl (fun w H hH le => w68 hH (⟨t1089.2.2.1, r_2.out, r_2.within⟩ : Report) ⟨_, _, rfl, (hl1101.mono (Flat.mono _) (le.at 4 rfl))⟩ e5842.1 (r_2.words.length : Int) hx6294) (by
         rintro v_ K6296 ⟨ad6297, cap6298, rfl, hl6299⟩
         exact finU (f := fun q => .slice q.1 r6293.length q.2) (G := (fun (q : Option Addr × Nat) K => Sl (Flat encS) 1 K q.1 q.2 r6293)) (_, _) (fun _ _ _ h x => x.mono (Flat.mono _) h) hl6299))) ?_
       rintro ⟨ad6301, cap6302⟩
       refine dt rfl (ld G129 rfl rfl (sS 2 rfl hK5237) rfl fin1) (dt rfl (nl rfl rfl fin1) (dt rfl (fb 0 U133 rfl rfl rfl rfl Z56 fin1) (dt rfl (ldA G56 Z56 rfl rfl ((sO 2 rfl).take 3) rfl fin1) (dt rfl (ld G3 rfl rfl (sO 10 rfl) rfl fin1) (dt rfl (m1 rfl fin1) ?_)))))
       refine DF.und (α := Option Addr × Nat) (none, 0) (fun q => .slice q.1 r6293.length q.2) (fun (q : Option Addr × Nat) K => Sl (Flat encS) 1 K q.1 q.2 r6293) (fun _ _ _ h x => x.mono (Flat.mono _) h) (by kernel_rfl) rfl (fun a w K hS hA hF => TG.pa hS hA (clK C68 rfl rfl rfl rfl (fun w H hH le => w68 hH (⟨t1089.2.2.1, r_2.out, r_2.within⟩ : Report) ⟨_, _, rfl, (hl1101.mono (Flat.mono _) (le.at 4 rfl))⟩ e5842.1 (r_2.words.length : Int) hx6294) (by
         rintro v_ K6303 ⟨ad6304, cap6305, rfl, hl6306⟩
         exact finU (f := fun q => .slice q.1 r6293.length q.2) (G := (fun (q : Option Addr × Nat) K => Sl (Flat encS) 1 K q.1 q.2 r6293)) (_, _) (fun _ _ _ h x => x.mono (Flat.mono _) h) hl6306))) ?_
       rintro ⟨ad6308, cap6309⟩
       refine DF.und () (fun _ => .agg [.slice ad6301 r6293.length cap6302, .slice ad6308 r6293.length cap6309, .int .i64 (-1)].toArray) (fun _ K => Sl (Flat encS) 1 K ad6301 cap6302 r6293 ∧ Sl (Flat encS) 1 K ad6308 cap6309 r6293) (fun _ _ _ h x => ⟨x.1.mono (Flat.mono _) h, x.2.mono (Flat.mono _) h⟩) (by kernel_rfl) rfl (fun a w K hS hA hF => TG.pa hS hA (bu (cs := [.slice ad6301 r6293.length cap6302, .slice ad6308 r6293.length cap6309, .int .i64 (-1)]) T4.B98 rfl rfl rfl (finF (f := fun _ => .agg [.slice ad6301 r6293.length cap6302, .slice ad6308 r6293.length cap6309, .int .i64 (-1)].toArray) (G := fun _ K => Sl (Flat encS) 1 K ad6301 cap6302 r6293 ∧ Sl (Flat encS) 1 K ad6308 cap6309 r6293) () ⟨(hF.2.1 rfl), (hF.1 rfl)⟩))) fun _ => ?_
       refine DF.und (α := Option Addr × Nat) (none, 0) (fun q => .slice q.1 1 q.2) (fun (q : Option Addr × Nat) K => Sl (RSegment) 3 K q.1 q.2 ([(⟨r6293, r6293, (-1)⟩ : Segment)] : List Segment)) (fun _ _ _ h x => x.mono (RSegment.mono) h) (by kernel_rfl) rfl (fun a w K hS hA hF => TG.pa hS hA (bS (cs := [.slice ad6301 r6293.length cap6302, .slice ad6308 r6293.length cap6309, .int .i64 (-1)]) T4.E91 rfl rfl rfl rfl fun q6311 K6312 hq6313 hK6314 => by
         refine TG.pack (fun K => Sl (RSegment) 3 K (some q6311) 1 ([(⟨r6293, r6293, (-1)⟩ : Segment)] : List Segment)) (fun H le => Sl.litR (css := [[.slice ad6301 r6293.length cap6302, .slice ad6308 r6293.length cap6309, .int .i64 (-1)]]) (l := ([(⟨r6293, r6293, (-1)⟩ : Segment)] : List Segment)) ⟨⟨rfl, rfl, ⟨_, _, _, _, rfl, ((hF.1 rfl).1.mono (Flat.mono _) (le.at 1 rfl)), ((hF.1 rfl).2.mono (Flat.mono _) (le.at 1 rfl))⟩⟩, tv⟩ hq6313 (hK6314.mono (le.at 0 rfl)) rfl) fun K6316 hl6315 => ?_
         have := hl6315.len
         refine sk1 ?_
         exact finU (f := fun q => .slice q.1 1 q.2) (G := (fun (q : Option Addr × Nat) K => Sl (RSegment) 3 K q.1 q.2 ([(⟨r6293, r6293, (-1)⟩ : Segment)] : List Segment))) (_, _) (fun _ _ _ h x => x.mono (RSegment.mono) h) hl6315)) ?_
       rintro ⟨ad6318, cap6319⟩
       refine DF.nil fun K6320 hF => ?_
       obtain ⟨hu6317, hu6310, hu6307, hu6300, _⟩ := hF
       have := hu6300.len
       have := hu6307.len
       have := hu6317.len
       obtain ⟨hk6321, hr6322⟩ := chk_some hr6295
       have := lenA e5842.2 ([(⟨r6293, r6293, (-1)⟩ : Segment)] : List Segment)
       refine TG.pack (fun K => Sl (RSegment) 3 K ad6318 cap6319 ([(⟨r6293, r6293, (-1)⟩ : Segment)] : List Segment) ∧ Rows (RSegment) 3 K css5847 e5842.2) (fun H le => ⟨hu6317.mono (RSegment.mono) (le.at 0 rfl), hR5849.mono (RSegment.mono) (le.at 1 rfl)⟩) fun K6325 ⟨hm6326, hR6327⟩ => (apR 13 (l := e5842.2) (m := ([(⟨r6293, r6293, (-1)⟩ : Segment)] : List Segment)) T4.E91 rfl rfl rfl rfl rfl rfl hm6326 hR6327 RSegment.one rfl hk6321 fun ad6323 cap6324 css6329 hR6328 => (sto 9 (cs := [.slice ad6323 ((e5842.2 ++ ([(⟨r6293, r6293, (-1)⟩ : Segment)] : List Segment)).length) cap6324]) Z91 rfl rfl rfl rfl rfl rfl rfl (on ?_)))
       cases hr6322
       intro a w hS hA
       exact ⟨ad6323, cap6324, css6329, K6325, hS.selH [0, 2, 3, 4, 5, 6, 7, 8, 9, 10, 11] rfl, hA.cut tv, hR6328⟩
      ·have hr6330 := if_n hc6291 hx6284
       refine sk ?_
       cases hr6330
       intro a w hS hA
       exact ⟨ad5845, cap5846, css5847, K5848, hS.selH [0, 0, 1, 2, 3, 4, 5, 6, 7, 8, 9] rfl, hA.cut tv, hR5849⟩
     ·rintro a w ⟨ad6286, cap6287, css6288, K6289, hS, hA, hR6290⟩
      refine TG.ap ?_ hS hA
      cases hr6285
      intro a w hS hA
      refine ret0 hA rfl ?_
      exact ⟨_, rfl, ⟨ad6286, cap6287, css6288, K6289, rfl, hS, hR6290⟩⟩
    ·rintro a w v hA (⟨ad6238, cap6239, css6240, K6241, rfl, hS, hR6242⟩)
     refine putK rfl hA hS (on (sq (rg (ld G91 rfl rfl (sO 9 rfl) rfl (a1 rfl (a1 rfl (on (rt_ ?_))))))))
     cases hr6237
     intro a w hS hA
     refine ret2 hA rfl rfl rfl ?_
     exact ⟨⟨_, _, rfl, (hS.rowsOut 13 rfl 0 rfl (RSegment.mono) hR6242)⟩, hS.ext⟩

theorem w46 {M : Prop} {W : World} {H : Hp} (hH : H.le (hp W)) {ad_a_0 : Option Addr} {cap_a_0 : Nat} {a_0 : List Bytes} (h_a_0 : Sl (Flat encS) 1 H ad_a_0 cap_a_0 a_0) {ad_b_1 : Option Addr} {cap_b_1 : Nat} {b_1 : List Bytes} (h_b_1 : Sl (Flat encS) 1 H ad_b_1 cap_b_1 b_1) {r : Bool} (hr : m46 a_0 b_1 = some r) : Calls Tryz.prog 46 [.slice ad_a_0 a_0.length cap_a_0, .slice ad_b_1 b_1.length cap_b_1].toArray W (RetS M W (.bool r)) := by
 have := h_a_0.len
 have := h_b_1.len
 unfold m46 at hr
 refine enterG (M := M) Tryz.func46 rfl Tryz.ntmps46 rfl hH ?_
 refine sq (rg (a1 rfl (on (sq (sq (rg (m1 rfl (lnL U24 rfl rfl (m1 rfl (lnL U24 rfl rfl (neI rfl rfl rfl ?_)))))))))))
 refine on ?_
 refine ci rfl (fun hc4 => ?_) (fun hc4 => ?_)
 ·have hr5 := if_p hc4 hr
  refine sq (rg (a1 rfl (on (rt_ ?_))))
  cases hr5
  intro a w hS hA
  refine ret1 hA rfl rfl ?_
  exact ⟨rfl, hS.ext⟩
 ·have hr6 := if_n hc4 hr
  refine sk (sq (sq (rg (a1 rfl (on ?_)))))
  obtain ⟨e31, hl32, hr33⟩ := bd_some hr6
  refine jn (fun a w => ∃ t34, e31 = .inl t34 ∧ St M W H [H] [] w ∧ Has [] 26 a []) ?_ ?_
  ·refine bk ?_
   refine lp hl32 (fun s35 a w => St M W H [H] [] w ∧ Has [] 26 a [(0, .slice ad_a_0 a_0.length cap_a_0), (1, .slice ad_b_1 b_1.length cap_b_1), (5, .int .i64 (s35 : Int))]) ?_ ?_
   ·exact cu ⟨rfl, rfl, rfl, tv⟩
   ·rintro j s35 y38 hr36 hz37 a w ⟨hS, hA⟩
    refine TG.ap ?_ hS hA
    unfold m46_1 at hr36
    refine sq (sq (rg (m1 rfl (m1 rfl (lnL U24 rfl rfl (ltI rfl rfl rfl (on ?_)))))))
    refine ci rfl (fun hc42 => ?_) (fun hc42 => ?_)
    ·have hr43 := if_p hc42 hr36
     refine sk (sq (bk (sq ?_)))
     obtain ⟨x64, hx65, hr66⟩ := bd_some hr43
     obtain ⟨p67, rfl⟩ := h_a_0.adr hx65
     obtain ⟨cs68, hcs69, hq70, hr71⟩ := h_a_0.at hx65
     obtain rfl := hr71
     obtain ⟨x72, hx73, hr74⟩ := bd_some hr66
     obtain ⟨p75, rfl⟩ := h_b_1.adr hx73
     obtain ⟨cs76, hcs77, hq78, hr79⟩ := h_b_1.at hx73
     obtain rfl := hr79
     refine drG 8 mixed (by kernel_rfl) rfl (dt rfl (m1 rfl fin1) (dt rfl (m1 rfl fin1) (dt rfl (iaP U24 Z9 rfl rfl rfl rfl (lt_of hx65) fin1) (dt rfl (ld G9 rfl rfl (sS 1 rfl hq70) rfl fin1) (dt rfl (m1 rfl fin1) (dt rfl (m1 rfl fin1) (dt rfl (iaP U24 Z9 rfl rfl rfl rfl (lt_of hx73) fin1) (dt rfl (ld G9 rfl rfl (sS 1 rfl hq78) rfl fin1) (DF.nil fun K80 hF => (neS rfl rfl rfl (on ?_)))))))))))
     refine ci rfl (fun hc84 => ?_) (fun hc84 => ?_)
     ·have hr85 := if_p hc84 hr74
      refine sq (rg (a1 rfl (on (rt_ ?_))))
      cases hr85
      obtain rfl := Fin.out hz37
      cases hr33
      intro a w hS hA
      refine ret1 hA rfl rfl ?_
      exact ⟨rfl, hS.ext⟩
     ·have hr86 := if_n hc84 hr74
      refine sk (rg (m1 rfl (adI rfl rfl rfl (by omega) (a1 rfl (on ?_)))))
      cases hr86
      intro a w hS hA
      exact ⟨_, hz37, hS.selH [1] rfl, hA.cut ⟨rfl, rfl, rfl, tv⟩⟩
    ·have hr87 := if_n hc42 hr36
     refine xt rfl ?_
     cases hr87
     obtain rfl := Fin.out hz37
     intro a w hS hA
     exact ⟨_, rfl, hS, hA.cut tv⟩
  ·rintro a w ⟨t34, rfl, hS, hA⟩
   refine TG.ap ?_ hS hA
   refine sq (rg (a1 rfl (on (rt_ ?_))))
   cases hr33
   intro a w hS hA
   refine ret1 hA rfl rfl ?_
   exact ⟨rfl, hS.ext⟩

theorem w43 {M : Prop} {W : World} {H : Hp} (hH : H.le (hp W)) {ad_a_0 : Option Addr} {cap_a_0 : Nat} {a_0 : List Segment} (h_a_0 : Sl (RSegment) 3 H ad_a_0 cap_a_0 a_0) {ad_b_1 : Option Addr} {cap_b_1 : Nat} {b_1 : List Segment} (h_b_1 : Sl (RSegment) 3 H ad_b_1 cap_b_1 b_1) {r : Bool} (hr : m43 a_0 b_1 = some r) : Calls Tryz.prog 43 [.slice ad_a_0 a_0.length cap_a_0, .slice ad_b_1 b_1.length cap_b_1].toArray W (RetS M W (.bool r)) := by
 have := h_a_0.len
 have := h_b_1.len
 unfold m43 at hr
 refine enterG (M := M) Tryz.func43 rfl Tryz.ntmps43 rfl hH ?_
 refine sq (rg (a1 rfl (on (sq (sq (rg (m1 rfl (lnL U91 rfl rfl (m1 rfl (lnL U95 rfl rfl (neI rfl rfl rfl ?_)))))))))))
 refine on ?_
 refine ci rfl (fun hc4 => ?_) (fun hc4 => ?_)
 ·have hr5 := if_p hc4 hr
  refine sq (rg (a1 rfl (on (rt_ ?_))))
  cases hr5
  intro a w hS hA
  refine ret1 hA rfl rfl ?_
  exact ⟨rfl, hS.ext⟩
 ·have hr6 := if_n hc4 hr
  refine sk (sq (sq (rg (a1 rfl (on ?_)))))
  obtain ⟨e60, hl61, hr62⟩ := bd_some hr6
  refine jn (fun a w => ∃ t63, e60 = .inl t63 ∧ St M W H [H] [] w ∧ Has [] 56 a []) ?_ ?_
  ·refine bk ?_
   refine lp hl61 (fun s64 a w => St M W H [H] [] w ∧ Has [] 56 a [(0, .slice ad_a_0 a_0.length cap_a_0), (1, .slice ad_b_1 b_1.length cap_b_1), (5, .int .i64 (s64 : Int))]) ?_ ?_
   ·exact cu ⟨rfl, rfl, rfl, tv⟩
   ·rintro j s64 y67 hr65 hz66 a w ⟨hS, hA⟩
    refine TG.ap ?_ hS hA
    unfold m43_1 at hr65
    refine sq (sq (rg (m1 rfl (m1 rfl (lnL U91 rfl rfl (ltI rfl rfl rfl (on ?_)))))))
    refine ci rfl (fun hc71 => ?_) (fun hc71 => ?_)
    ·have hr72 := if_p hc71 hr65
     refine sk (sq (bk (sq ?_)))
     obtain ⟨t167, hx168, hr169⟩ := bd_some hr72
     refine jn (fun a w => St M W H [H] [] w ∧ Has [] 56 a [(0, .slice ad_a_0 a_0.length cap_a_0), (1, .slice ad_b_1 b_1.length cap_b_1), (5, .int .i64 (s64 : Int)), (55, .bool t167)]) ?_ ?_
     ·obtain ⟨x170, hx171, hr172⟩ := bd_some hx168
      obtain ⟨p173, rfl⟩ := h_a_0.adr hx171
      obtain ⟨cs174, hcs175, hq176, hr177⟩ := h_a_0.at hx171
      have hr178 := hr177
      obtain ⟨ad179, cap180, ad182, cap183, rfl, hl181, hl184⟩ := hr177
      have := hl181.len
      have := hl184.len
      obtain ⟨x185, hx186, hr187⟩ := bd_some hr172
      obtain ⟨p188, rfl⟩ := h_b_1.adr hx186
      obtain ⟨cs189, hcs190, hq191, hr192⟩ := h_b_1.at hx186
      have hr193 := hr192
      obtain ⟨ad194, cap195, ad197, cap198, rfl, hl196, hl199⟩ := hr192
      have := hl196.len
      have := hl199.len
      obtain ⟨r200, hx201, hr202⟩ := bd_some hr187
      rcases Bool.eq_false_or_eq_true (r200) with hb203 | hb203
      ·have hr204 := if_p hb203 hr202
       obtain ⟨r205, hx206, hr207⟩ := bd_some hr204
       rcases Bool.eq_false_or_eq_true (r205) with hb208 | hb208
       ·have hr209 := if_p hb208 hr207
        refine drG 37 mixed (by kernel_rfl) rfl (dt rfl (m1 rfl fin1) (dt rfl (m1 rfl fin1) (dt rfl (iaP U91 Z98 rfl rfl rfl rfl (lt_of hx171) fin1) (dt rfl (fb 0 U98 rfl rfl rfl rfl Z24 fin1) (dt rfl (ld G24 rfl rfl ((sS 1 rfl hq176).take 1) rfl fin1) (dt rfl (m1 rfl fin1) (dt rfl (m1 rfl fin1) (dt rfl (iaP U95 Z108 rfl rfl rfl rfl (lt_of hx186) fin1) (dt rfl (fb 0 U108 rfl rfl rfl rfl Z24 fin1) (dt rfl (ld G24 rfl rfl ((sS 1 rfl hq191).take 1) rfl fin1) (dt rfl (clS C46 rfl rfl rfl rfl (fun w H hH le => w46 hH (hl181.mono (Flat.mono _) (le.at 1 rfl)) (hl196.mono (Flat.mono _) (le.at 1 rfl)) hx201) fin1) ?_)))))))))))
        refine dt rfl (nt rfl rfl fin1) (dt rfl (m1 rfl fin1) (dt rfl (gN rfl rfl (congrArg not (hb203)) (m1 rfl fin1)) (dt rfl (gN rfl rfl (congrArg not (hb203)) (m1 rfl fin1)) (dt rfl (gN rfl rfl (congrArg not (hb203)) (iaP U91 Z98 rfl rfl rfl rfl (lt_of hx171) fin1)) (dt rfl (gN rfl rfl (congrArg not (hb203)) (fb 1 U98 rfl rfl rfl rfl Z24 fin1)) (dt rfl (gN rfl rfl (congrArg not (hb203)) (ld G24 rfl rfl (((sS 1 rfl hq176).drop 1).take 1) rfl fin1)) (dt rfl (gN rfl rfl (congrArg not (hb203)) (m1 rfl fin1)) (dt rfl (gN rfl rfl (congrArg not (hb203)) (m1 rfl fin1)) (dt rfl (gN rfl rfl (congrArg not (hb203)) (iaP U95 Z108 rfl rfl rfl rfl (lt_of hx186) fin1)) (dt rfl (gN rfl rfl (congrArg not (hb203)) (fb 1 U108 rfl rfl rfl rfl Z24 fin1)) (dt rfl (gN rfl rfl (congrArg not (hb203)) (ld G24 rfl rfl (((sS 1 rfl hq191).drop 1).take 1) rfl fin1)) ?_)))))))))))
        refine dt rfl (gN rfl rfl (congrArg not (hb203)) (clS C46 rfl rfl rfl rfl (fun w H hH le => w46 hH (hl184.mono (Flat.mono _) (le.at 1 rfl)) (hl199.mono (Flat.mono _) (le.at 1 rfl)) hx206) fin1)) (dt rfl (gN rfl rfl (congrArg not (hb203)) (nt rfl rfl fin1)) (dt rfl (pF rfl rfl (congrArg not (hb203)) rfl fin1) (dt rfl (m1 rfl fin1) (dt rfl (gN rfl rfl (congrArg not (hb208)) (m1 rfl fin1)) (dt rfl (gN rfl rfl (congrArg not (hb208)) (m1 rfl fin1)) (dt rfl (gN rfl rfl (congrArg not (hb208)) (iaP U91 Z98 rfl rfl rfl rfl (lt_of hx171) fin1)) (dt rfl (gN rfl rfl (congrArg not (hb208)) (fb 2 U98 rfl rfl rfl rfl Z3 fin1)) (dt rfl (gN rfl rfl (congrArg not (hb208)) (ld G3 rfl rfl ((sS 1 rfl hq176).drop 2) rfl fin1)) (dt rfl (gN rfl rfl (congrArg not (hb208)) (m1 rfl fin1)) (dt rfl (gN rfl rfl (congrArg not (hb208)) (m1 rfl fin1)) (dt rfl (gN rfl rfl (congrArg not (hb208)) (iaP U95 Z108 rfl rfl rfl rfl (lt_of hx186) fin1)) ?_)))))))))))
        refine dt rfl (gN rfl rfl (congrArg not (hb208)) (fb 2 U108 rfl rfl rfl rfl Z3 fin1)) (dt rfl (gN rfl rfl (congrArg not (hb208)) (ld G3 rfl rfl ((sS 1 rfl hq191).drop 2) rfl fin1)) (DF.nil fun K210 hF => (gN rfl rfl (congrArg not (hb208)) (neI rfl rfl rfl (pF rfl rfl (congrArg not (hb208)) rfl (on ?_))))))
        cases hr209
        intro a w hS hA
        exact ⟨hS.selH [1] rfl, hA.cut ⟨rfl, rfl, rfl, rfl, tv⟩⟩
       ·have hr211 := if_f hb208 hr207
        refine drG 37 mixed (by kernel_rfl) rfl (dt rfl (m1 rfl fin1) (dt rfl (m1 rfl fin1) (dt rfl (iaP U91 Z98 rfl rfl rfl rfl (lt_of hx171) fin1) (dt rfl (fb 0 U98 rfl rfl rfl rfl Z24 fin1) (dt rfl (ld G24 rfl rfl ((sS 1 rfl hq176).take 1) rfl fin1) (dt rfl (m1 rfl fin1) (dt rfl (m1 rfl fin1) (dt rfl (iaP U95 Z108 rfl rfl rfl rfl (lt_of hx186) fin1) (dt rfl (fb 0 U108 rfl rfl rfl rfl Z24 fin1) (dt rfl (ld G24 rfl rfl ((sS 1 rfl hq191).take 1) rfl fin1) (dt rfl (clS C46 rfl rfl rfl rfl (fun w H hH le => w46 hH (hl181.mono (Flat.mono _) (le.at 1 rfl)) (hl196.mono (Flat.mono _) (le.at 1 rfl)) hx201) fin1) ?_)))))))))))
        refine dt rfl (nt rfl rfl fin1) (dt rfl (m1 rfl fin1) (dt rfl (gN rfl rfl (congrArg not (hb203)) (m1 rfl fin1)) (dt rfl (gN rfl rfl (congrArg not (hb203)) (m1 rfl fin1)) (dt rfl (gN rfl rfl (congrArg not (hb203)) (iaP U91 Z98 rfl rfl rfl rfl (lt_of hx171) fin1)) (dt rfl (gN rfl rfl (congrArg not (hb203)) (fb 1 U98 rfl rfl rfl rfl Z24 fin1)) (dt rfl (gN rfl rfl (congrArg not (hb203)) (ld G24 rfl rfl (((sS 1 rfl hq176).drop 1).take 1) rfl fin1)) (dt rfl (gN rfl rfl (congrArg not (hb203)) (m1 rfl fin1)) (dt rfl (gN rfl rfl (congrArg not (hb203)) (m1 rfl fin1)) (dt rfl (gN rfl rfl (congrArg not (hb203)) (iaP U95 Z108 rfl rfl rfl rfl (lt_of hx186) fin1)) (dt rfl (gN rfl rfl (congrArg not (hb203)) (fb 1 U108 rfl rfl rfl rfl Z24 fin1)) (dt rfl (gN rfl rfl (congrArg not (hb203)) (ld G24 rfl rfl (((sS 1 rfl hq191).drop 1).take 1) rfl fin1)) ?_)))))))))))
        refine dt rfl (gN rfl rfl (congrArg not (hb203)) (clS C46 rfl rfl rfl rfl (fun w H hH le => w46 hH (hl184.mono (Flat.mono _) (le.at 1 rfl)) (hl199.mono (Flat.mono _) (le.at 1 rfl)) hx206) fin1)) (dt rfl (gN rfl rfl (congrArg not (hb203)) (nt rfl rfl fin1)) (dt rfl (pF rfl rfl (congrArg not (hb203)) rfl fin1) (dt rfl (m1 rfl fin1) (dt rfl (gF rfl rfl (congrArg not (hb208)) rfl fin1) (dt rfl (gF rfl rfl (congrArg not (hb208)) rfl fin1) (dt rfl (gF rfl rfl (congrArg not (hb208)) rfl fin1) (dt rfl (gF rfl rfl (congrArg not (hb208)) rfl fin1) (dt rfl (gF rfl rfl (congrArg not (hb208)) rfl fin1) (dt rfl (gF rfl rfl (congrArg not (hb208)) rfl fin1) (dt rfl (gF rfl rfl (congrArg not (hb208)) rfl fin1) (dt rfl (gF rfl rfl (congrArg not (hb208)) rfl fin1) ?_)))))))))))
        refine dt rfl (gF rfl rfl (congrArg not (hb208)) rfl fin1) (dt rfl (gF rfl rfl (congrArg not (hb208)) rfl fin1) (DF.nil fun K212 hF => (gF rfl rfl (congrArg not (hb208)) rfl (pT rfl rfl (congrArg not (hb208)) rfl (on ?_)))))
        cases hr211
        intro a w hS hA
        exact ⟨hS.selH [1] rfl, hA.cut ⟨rfl, rfl, rfl, rfl, tv⟩⟩
      ·have hr213 := if_f hb203 hr202
       refine drG 37 mixed (by kernel_rfl) rfl (dt rfl (m1 rfl fin1) (dt rfl (m1 rfl fin1) (dt rfl (iaP U91 Z98 rfl rfl rfl rfl (lt_of hx171) fin1) (dt rfl (fb 0 U98 rfl rfl rfl rfl Z24 fin1) (dt rfl (ld G24 rfl rfl ((sS 1 rfl hq176).take 1) rfl fin1) (dt rfl (m1 rfl fin1) (dt rfl (m1 rfl fin1) (dt rfl (iaP U95 Z108 rfl rfl rfl rfl (lt_of hx186) fin1) (dt rfl (fb 0 U108 rfl rfl rfl rfl Z24 fin1) (dt rfl (ld G24 rfl rfl ((sS 1 rfl hq191).take 1) rfl fin1) (dt rfl (clS C46 rfl rfl rfl rfl (fun w H hH le => w46 hH (hl181.mono (Flat.mono _) (le.at 1 rfl)) (hl196.mono (Flat.mono _) (le.at 1 rfl)) hx201) fin1) ?_)))))))))))
       refine dt rfl (nt rfl rfl fin1) (dt rfl (m1 rfl fin1) (dt rfl (gF rfl rfl (congrArg not (hb203)) rfl fin1) (dt rfl (gF rfl rfl (congrArg not (hb203)) rfl fin1) (dt rfl (gF rfl rfl (congrArg not (hb203)) rfl fin1) (dt rfl (gF rfl rfl (congrArg not (hb203)) rfl fin1) (dt rfl (gF rfl rfl (congrArg not (hb203)) rfl fin1) (dt rfl (gF rfl rfl (congrArg not (hb203)) rfl fin1) (dt rfl (gF rfl rfl (congrArg not (hb203)) rfl fin1) (dt rfl (gF rfl rfl (congrArg not (hb203)) rfl fin1) (dt rfl (gF rfl rfl (congrArg not (hb203)) rfl fin1) (dt rfl (gF rfl rfl (congrArg not (hb203)) rfl fin1) ?_)))))))))))
       refine dt rfl (gF rfl rfl (congrArg not (hb203)) rfl fin1) (dt rfl (gF rfl rfl (congrArg not (hb203)) rfl fin1) (dt rfl (pT rfl rfl (congrArg not (hb203)) rfl fin1) (dt rfl (m1 rfl fin1) (dt rfl (gF rfl rfl rfl rfl fin1) (dt rfl (gF rfl rfl rfl rfl fin1) (dt rfl (gF rfl rfl rfl rfl fin1) (dt rfl (gF rfl rfl rfl rfl fin1) (dt rfl (gF rfl rfl rfl rfl fin1) (dt rfl (gF rfl rfl rfl rfl fin1) (dt rfl (gF rfl rfl rfl rfl fin1) (dt rfl (gF rfl rfl rfl rfl fin1) ?_)))))))))))
       refine dt rfl (gF rfl rfl rfl rfl fin1) (dt rfl (gF rfl rfl rfl rfl fin1) (DF.nil fun K214 hF => (gF rfl rfl rfl rfl (pT rfl rfl rfl rfl (on ?_)))))
       cases hr213
       intro a w hS hA
       exact ⟨hS.selH [1] rfl, hA.cut ⟨rfl, rfl, rfl, rfl, tv⟩⟩
     ·rintro a w ⟨hS, hA⟩
      refine TG.ap ?_ hS hA
      refine cb rfl (fun hc218 => ?_) (fun hc218 => ?_)
      ·have hr219 := if_p hc218 hr169
       refine sq (rg (a1 rfl (on (rt_ ?_))))
       cases hr219
       obtain rfl := Fin.out hz66
       cases hr62
       intro a w hS hA
       refine ret1 hA rfl rfl ?_
       exact ⟨rfl, hS.ext⟩
      ·have hr220 := if_f hc218 hr169
       refine sk (rg (m1 rfl (adI rfl rfl rfl (by omega) (a1 rfl (on ?_)))))
       cases hr220
       intro a w hS hA
       exact ⟨_, hz66, hS, hA.cut ⟨rfl, rfl, rfl, tv⟩⟩
    ·have hr221 := if_n hc71 hr65
     refine xt rfl ?_
     cases hr221
     obtain rfl := Fin.out hz66
     intro a w hS hA
     exact ⟨_, rfl, hS, hA.cut tv⟩
  ·rintro a w ⟨t63, rfl, hS, hA⟩
   refine TG.ap ?_ hS hA
   refine sq (rg (a1 rfl (on (rt_ ?_))))
   cases hr62
   intro a w hS hA
   refine ret1 hA rfl rfl ?_
   exact ⟨rfl, hS.ext⟩

end T4
