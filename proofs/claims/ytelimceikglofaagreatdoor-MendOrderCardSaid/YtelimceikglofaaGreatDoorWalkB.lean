/-
 Walks of functions of layer 4: each call comes to what the model says. Printed by a program of ours.
-/
import Derived.Test.YtelimceikglofaaGreatDoorWalkA
set_option linter.all false
set_option maxHeartbeats 4000000
namespace T4
open Go Go.Proofs Pk
theorem w29 {M : Prop} {W : World} {H : Hp} (hH : H.le (hp W)) (hg : Gv M H) {cs_l_0 : List Value} (l_0 : Lexicon) (h_l_0 : (RLexicon) H cs_l_0 l_0) {ad_swaps : Option Addr} {cap_swaps : Nat} {swaps : List Swap} (h_swaps : Sl (Flat encSwap) 3 H ad_swaps cap_swaps swaps) {cs_r_2 : List Value} (r_2 : Report) (h_r_2 : (RReport) H cs_r_2 r_2) {ad_requests : Option Addr} {cap_requests : Nat} {requests : List Request} (h_requests : Sl (RRequest) 5 H ad_requests cap_requests requests) {r : List Int × Int} (hr : m29 l_0 swaps r_2 requests = some r) : Calls Tryz.prog 29 [.agg cs_l_0.toArray, .slice ad_swaps swaps.length cap_swaps, .agg cs_r_2.toArray, .slice ad_requests requests.length cap_requests].toArray W (RetK M H W (fun v K => ∃ (ad0 : Option Addr) (cap0 : Nat), v = .tuple [.slice ad0 r.1.length cap0, .int .i64 r.2].toArray ∧ Sl (Flat (encI .i64)) 1 K ad0 cap0 r.1)) := by
 have hh_l_0 := h_l_0
 obtain ⟨ad1, cap2, ad4, cap5, ad7, cap8, rfl, hl3, hl6, hl9⟩ := h_l_0
 have := hl3.len
 have := hl6.len
 have := hl9.len
 have := h_swaps.len
 have hh_r_2 := h_r_2
 obtain ⟨ad10, cap11, rfl, hl12⟩ := h_r_2
 have := hl12.len
 have := h_requests.len
 unfold m29 at hr
 refine enterG (M := M) Tryz.func29 rfl Tryz.ntmps29 rfl hH ?_
 refine sq (rg (bI (cs := [.slice ad1 l_0.numbers.length cap2, .slice ad4 l_0.names.length cap5, .slice ad7 l_0.nots.length cap8]) rfl rfl rfl fun q13 K14 hK15 => (bI (cs := [.slice ad10 r_2.words.length cap11, .int .i64 r_2.out, .int .i64 r_2.within]) rfl rfl rfl fun q16 K17 hK18 => (a1 rfl (a1 rfl (on (sq (rg (ldA G36 Z36 rfl rfl (sS 1 rfl hK15) rfl (m1 rfl (ldA G56 Z56 rfl rfl (sS 0 rfl hK18) rfl ?_)))))))))))
 refine m1 rfl ?_
 obtain ⟨t1082, hx1083, hr1084⟩ := bd_some hr
 refine clI C59 Tryz.func59 rfl Tryz.ntmps59 rfl rfl rfl rfl (fun v w => (∃ (t1085 : Int), t1082 = (.inl t1085) ∧ v = .tuple [.pointer none, .int .i64 t1085].toArray ∧ St M W H [K17, K14, H] [] w) ∨ (∃ (t1086 : List Int × List Request × List Said × (List (Bytes × Mark)) × List Swap × List Int), t1082 = (.inr t1086) ∧ ∃ (b1087 : Nat) (ad1088 : Option Addr) (cap1089 : Nat) (ad1090 : Option Addr) (cap1091 : Nat) (css1092 : List (List Value)) (K1093 : Hp) (ad1095 : Option Addr) (cap1096 : Nat) (K1097 : Hp) (mp1099 : Value) (K1100 : Hp) (ad1102 : Option Addr) (cap1103 : Nat) (K1104 : Hp) (ad1106 : Option Addr) (cap1107 : Nat), v = .tuple [.pointer (some (⟨b1087, 0, none⟩)), .int .i64 0].toArray ∧ St M W H [K1093, K1097, K1100, K1104, K17, K14, H] [(8, Own.list ad1088 cap1089 3 1 (encI .i64) t1086.1), (7, Own.rows ad1090 cap1091 63 5 css1092 t1086.2.1), (2, cel b1087 133 [.slice ad1095 t1086.2.2.1.length cap1096, .int .i64 r_2.out, .int .i64 r_2.within, mp1099, .slice ad1102 t1086.2.2.2.2.1.length cap1103, .slice ad1090 t1086.2.1.length cap1091, .slice ad1088 t1086.1.length cap1089, .slice ad1106 t1086.2.2.2.2.2.length cap1107]), (1, Own.list ad1106 cap1107 31 1 (encI .i64) t1086.2.2.2.2.2)] w ∧ Rows (RRequest) 5 K1093 css1092 t1086.2.1 ∧ Sl (Flat encSaid) 2 K1097 ad1095 cap1096 t1086.2.2.1 ∧ Mp keS (fun x => Value.agg (encMark x).toArray) K1100 mp1099 t1086.2.2.2.1 ∧ Sl (Flat encSwap) 3 K1104 ad1102 cap1103 t1086.2.2.2.2.1)) ?_ ?_
 ·refine sq (rg (bI (cs := [.slice ad1 l_0.numbers.length cap2, .slice ad4 l_0.names.length cap5, .slice ad7 l_0.nots.length cap8]) rfl rfl rfl fun q1108 K1109 hK1110 => (bI (cs := [.slice ad10 r_2.words.length cap11, .int .i64 r_2.out, .int .i64 r_2.within]) rfl rfl rfl fun q1111 K1112 hK1113 => (bI (cs := [.slice ad_requests requests.length cap_requests]) rfl rfl rfl fun q1114 K1115 hK1116 => (a1 rfl (a1 rfl (on (sq (rg (ldA G36 Z36 rfl rfl (sS 2 rfl hK1110) rfl (m1 rfl ?_)))))))))))
  obtain ⟨r1117, hx1118, hr1119⟩ := bd_some hx1083
  refine clK C51 rfl rfl rfl rfl (fun w H hH le => w51 hH l_0 (RLexicon.mono _ _ _ _ (le.at 5 rfl) hh_l_0) (h_swaps.mono (Flat.mono _) (le.at 5 rfl)) hx1118) ?_
  rintro v_ K1120 ⟨cs1121, rfl, hr1122⟩
  have hr1123 := hr1122
  obtain ⟨mp1124, ad1126, cap1127, rfl, hm1125, hl1128⟩ := hr1122
  have := hl1128.len
  refine m1 rfl (ex rfl rfl rfl (ex rfl rfl rfl ?_))
  obtain ⟨b1129, rfl⟩ := Mp.isMap hm1125
  refine va (cs := [.map b1129, .slice ad1126 r1117.1.swaps.length cap1127]) Tryz.zeroValue117 Z117 rfl rfl rfl rfl rfl rfl rfl rfl fun q1130 K1131 hK1132 => (a1 rfl (on (sq (sq (rg (m1 rfl (neI rfl rfl rfl (on ?_))))))))
  refine ci rfl (fun hc1136 => ?_) (fun hc1136 => ?_)
  ·have hr1137 := if_p hc1136 hr1119
   refine sq (rg (m1 rfl (a1 rfl (a1 rfl (on (rt_ ?_))))))
   cases hr1137
   intro a w hS hA
   refine ret2 hA rfl rfl rfl ?_
   exact ⟨_, rfl, .inl ⟨_, rfl, rfl, hS.selH [5, 6, 7] rfl⟩⟩
  ·have hr1138 := if_n hc1136 hr1119
   refine sk (sq (sq (rg (ldA G56 Z56 rfl rfl (sS 3 rfl hK1113) rfl ?_))))
   obtain ⟨r1139, hx1140, hr1141⟩ := bd_some hr1138
   refine clS C61 rfl rfl rfl rfl (fun w H hH le => w61 hH r_2 (RReport.mono _ _ _ _ (le.at 7 rfl) hh_r_2) hx1140) (a1 rfl (on (sq (rg (m1 rfl (neI rfl rfl rfl (on ?_)))))))
   refine ci rfl (fun hc1145 => ?_) (fun hc1145 => ?_)
   ·have hr1146 := if_p hc1145 hr1141
    refine sq (rg (m1 rfl (a1 rfl (a1 rfl (on (rt_ ?_))))))
    cases hr1146
    intro a w hS hA
    refine ret2 hA rfl rfl rfl ?_
    exact ⟨_, rfl, .inl ⟨_, rfl, rfl, hS.selH [5, 6, 7] rfl⟩⟩
   ·have hr1147 := if_n hc1145 hr1141
    refine sk (sq (sq (rg (ld G64 rfl rfl (sS 2 rfl hK1116) rfl (lnL U64 rfl rfl (gtI rfl rfl rfl (on ?_)))))))
    refine ci rfl (fun hc1151 => ?_) (fun hc1151 => ?_)
    ·have hr1152 := if_p hc1151 hr1147
     refine sq (rg (a1 rfl (a1 rfl (on (rt_ ?_)))))
     cases hr1152
     intro a w hS hA
     refine ret2 hA rfl rfl rfl ?_
     exact ⟨_, rfl, .inl ⟨_, rfl, rfl, hS.selH [5, 6, 7] rfl⟩⟩
    ·have hr1153 := if_n hc1151 hr1147
     refine sk (sq ?_)
     obtain ⟨hk1154, hr1155⟩ := chk_some hr1153
     have : (List.replicate requests.length (0 : Int)).length = requests.length := List.length_replicate
     refine drG2 5 4 mixed (by kernel_rfl) rfl rfl (DG.detA rfl rfl rfl (fun τ a w K hS hA hF => TG.pa hS hA (ldA G56 Z56 rfl rfl (sS 4 rfl hK1113) rfl fin1)) (DG.detA rfl rfl rfl (fun τ a w K hS hA hF => TG.pa hS hA (ldA G117 Z117 rfl rfl (sS 1 rfl hK1132) rfl fin1)) (DG.det (fun τ => τ = []) rfl rfl (.inr (by kernel_rfl)) (fun _ h => by cases h) rfl rfl (fun τ hτ a w K hS hA hF => by subst hτ <;> exact TG.pa hS hA (ld G64 rfl rfl (sS 3 rfl hK1116) rfl fin1)) (DG.det (fun τ => τ = []) rfl rfl (.inr (by kernel_rfl)) (fun _ h => by cases h) rfl rfl (fun τ hτ a w K hS hA hF => by subst hτ <;> exact TG.pa hS hA (lnL U64 rfl rfl fin1)) (DG.turn (α := Nat) 0 (fun b1156 => .slice (some ⟨b1156, 0, none⟩) ((List.replicate requests.length (0 : Int)).length) requests.length) (fun _ _ => True) (fun b1156 => [(1, Own.list (some ⟨b1156, 0, none⟩) requests.length 31 1 (encI .i64) (List.replicate requests.length (0 : Int)))]) rfl (fun _ _ _ _ h => h) (by kernel_rfl) rfl rfl (fun a w K hS hA hF => TG.pa hS hA (mkL 1 (encI .i64) (0 : Int) T4.E59 rfl rfl rfl rfl rfl rfl rfl hk1154 fun b1156 => finT (f := fun b1156 => .slice (some ⟨b1156, 0, none⟩) ((List.replicate requests.length (0 : Int)).length) requests.length) (G := fun _ _ => True) (σ1 := fun b1156 => [(1, Own.list (some ⟨b1156, 0, none⟩) requests.length 31 1 (encI .i64) (List.replicate requests.length (0 : Int)))]) b1156 tv)) fun b1156 => (DG.nil fun K1157 hF => ?_))))))
     obtain ⟨_, _⟩ := hF
     refine bu (cs := [.slice ad10 r_2.words.length cap11, .int .i64 r_2.out, .int .i64 r_2.within, .map b1129, .slice ad1126 r1117.1.swaps.length cap1127, .slice none 0 0, .slice none 0 0, .slice (some ⟨b1156, 0, none⟩) ((List.replicate requests.length (0 : Int)).length) requests.length]) T4.B133 rfl rfl rfl (bO 2 rfl rfl rfl fun b1158 => (a1 rfl (on (sq (rg (a1 rfl (on (sq (sq (rg (ld G64 rfl rfl (sS 3 rfl hK1116) rfl ?_)))))))))))
     refine lnL U64 rfl rfl (m1 rfl (on (TG.nilRow 4 3 1 (TG.as 4 (z := Own.list none 0 3 1 (encI .i64) ([] : List Int)) rfl rfl ?_))))
     obtain ⟨e1192, hl1193, hr1194⟩ := bd_some hr1155
     refine jn (fun a w => ∃ (ad1195 : Option Addr) (cap1196 : Nat), St M W H [K1157, K1131, K1120, K1115, K1112, K1109, K17, K14, H] [(4, Own.list ad1195 cap1196 3 1 (encI .i64) e1192), (2, cel b1158 133 [.slice ad10 r_2.words.length cap11, .int .i64 r_2.out, .int .i64 r_2.within, .map b1129, .slice ad1126 r1117.1.swaps.length cap1127, .slice none 0 0, .slice none 0 0, .slice (some ⟨b1156, 0, none⟩) ((List.replicate requests.length (0 : Int)).length) requests.length]), (1, Own.list (some ⟨b1156, 0, none⟩) requests.length 31 1 (encI .i64) (List.replicate requests.length (0 : Int)))] w ∧ Has [] 106 a [(7, .pointer (some q1114)), (13, .pointer (some (⟨b1158, 0, none⟩))), (14, .slice ad1195 e1192.length cap1196)]) ?_ ?_
     ·refine bk ?_
      refine lp hl1193 (fun s1197 a w => ∃ (ad1198 : Option Addr) (cap1199 : Nat), St M W H [K1157, K1131, K1120, K1115, K1112, K1109, K17, K14, H] [(4, Own.list ad1198 cap1199 3 1 (encI .i64) s1197.2), (2, cel b1158 133 [.slice ad10 r_2.words.length cap11, .int .i64 r_2.out, .int .i64 r_2.within, .map b1129, .slice ad1126 r1117.1.swaps.length cap1127, .slice none 0 0, .slice none 0 0, .slice (some ⟨b1156, 0, none⟩) ((List.replicate requests.length (0 : Int)).length) requests.length]), (1, Own.list (some ⟨b1156, 0, none⟩) requests.length 31 1 (encI .i64) (List.replicate requests.length (0 : Int)))] w ∧ Has [] 106 a [(7, .pointer (some q1114)), (13, .pointer (some (⟨b1158, 0, none⟩))), (14, .slice ad1198 s1197.2.length cap1199), (43, .int .i64 (requests.length : Int)), (44, .int .i64 (s1197.1 : Int))]) ?_ ?_
      ·intro a w hS hA
       exact ⟨none, 0, hS, hA.cut ⟨rfl, rfl, rfl, rfl, rfl, tv⟩⟩
      ·rintro j s1197 y1202 hr1200 hz1201 a w ⟨ad1198, cap1199, hS, hA⟩
       refine TG.ap ?_ hS hA
       unfold m29_1 at hr1200
       refine sq (rg (ltI rfl rfl rfl (on (sq ?_))))
       refine ci rfl (fun hc1206 => ?_) (fun hc1206 => ?_)
       ·have hr1207 := if_p hc1206 hr1200
        refine sk (sq (bk (sq (rg (m1 rfl (a1 rfl (on (rg (m1 rfl (m1 rfl ?_))))))))))
        obtain ⟨hk1213, hr1214⟩ := chk_some hr1207
        have := lenA s1197.2 [(s1197.1 : Int)]
        refine ap1 4 (encI .i64) (l := s1197.2) (s1197.1 : Int) T4.E86 rfl rfl rfl rfl rfl rfl rfl rfl rfl rfl rfl rfl hk1213 fun ad1215 cap1216 u1217 => (a1 rfl (on (rg (adI rfl rfl rfl (by omega) (m1 rfl (on ?_))))))
        cases hr1214
        intro a w hS hA
        exact ⟨_, hz1201, ad1215, cap1216, hS, hA.cut ⟨rfl, rfl, rfl, rfl, rfl, tv⟩⟩
       ·have hr1218 := if_n hc1206 hr1200
        refine xt rfl ?_
        cases hr1218
        obtain rfl := Fin.out hz1201
        intro a w hS hA
        exact ⟨ad1198, cap1199, hS, hA.cut ⟨rfl, rfl, rfl, tv⟩⟩
     ·rintro a w ⟨ad1195, cap1196, hS, hA⟩
      refine TG.ap ?_ hS hA
      refine sq (rg (m1 rfl (fn rfl rfl rfl ?_)))
      obtain ⟨t1886, hx1887, hr1888⟩ := bd_some hr1194
      refine clI C87 Tryz.func87 rfl Tryz.ntmps87 rfl rfl rfl rfl (fun v w => (v = .tuple #[] ∧ St M W H [K1157, K1131, K1120, K1115, K1112, K1109, K17, K14, H] [(4, Own.list ad1195 cap1196 3 1 (encI .i64) t1886), (2, cel b1158 133 [.slice ad10 r_2.words.length cap11, .int .i64 r_2.out, .int .i64 r_2.within, .map b1129, .slice ad1126 r1117.1.swaps.length cap1127, .slice none 0 0, .slice none 0 0, .slice (some ⟨b1156, 0, none⟩) ((List.replicate requests.length (0 : Int)).length) requests.length]), (1, Own.list (some ⟨b1156, 0, none⟩) requests.length 31 1 (encI .i64) (List.replicate requests.length (0 : Int)))] w ∧ t1886.length = e1192.length)) ?_ ?_
      ·refine rg (m1 rfl (m1 rfl (TG.len 4 rfl fun _ => (lnL U86 rfl rfl (m1 rfl ?_)))))
       obtain ⟨t2553, hx2554, hr2555⟩ := bd_some hx1887
       refine clI C112 Tryz.func112 rfl Tryz.ntmps112 rfl rfl rfl rfl (fun v w => (v = .tuple #[] ∧ St M W H [K1157, K1131, K1120, K1115, K1112, K1109, K17, K14, H] [(4, Own.list ad1195 cap1196 3 1 (encI .i64) t2553), (2, cel b1158 133 [.slice ad10 r_2.words.length cap11, .int .i64 r_2.out, .int .i64 r_2.within, .map b1129, .slice ad1126 r1117.1.swaps.length cap1127, .slice none 0 0, .slice none 0 0, .slice (some ⟨b1156, 0, none⟩) ((List.replicate requests.length (0 : Int)).length) requests.length]), (1, Own.list (some ⟨b1156, 0, none⟩) requests.length 31 1 (encI .i64) (List.replicate requests.length (0 : Int)))] w ∧ t2553.length = e1192.length)) ?_ ?_
       ·refine sq (rg (a1 rfl (on (sq (rg (m1 rfl (a1 rfl (a1 rfl (on (sq ?_))))))))))
        obtain ⟨e2991, hl2992, hr2993⟩ := bd_some hx2554
        refine jn (fun a w => St M W H [K1157, K1131, K1120, K1115, K1112, K1109, K17, K14, H] [(4, Own.list ad1195 cap1196 3 1 (encI .i64) e2991.2), (2, cel b1158 133 [.slice ad10 r_2.words.length cap11, .int .i64 r_2.out, .int .i64 r_2.within, .map b1129, .slice ad1126 r1117.1.swaps.length cap1127, .slice none 0 0, .slice none 0 0, .slice (some ⟨b1156, 0, none⟩) ((List.replicate requests.length (0 : Int)).length) requests.length]), (1, Own.list (some ⟨b1156, 0, none⟩) requests.length 31 1 (encI .i64) (List.replicate requests.length (0 : Int)))] w ∧ Has [] 63 a [(0, .slice ad1195 e1192.length cap1196), (1, .int .i64 (e1192.length : Int)), (2, .func (.func 88) [].toArray [.pointer (some q1114)].toArray), (6, .int .i64 20), (7, .int .i64 (e2991.1 : Int))] ∧ e2991.2.length = e1192.length) ?_ ?_
        ·refine bk ?_
         refine lp hl2992 (fun s2995 a w => St M W H [K1157, K1131, K1120, K1115, K1112, K1109, K17, K14, H] [(4, Own.list ad1195 cap1196 3 1 (encI .i64) s2995.2.2), (2, cel b1158 133 [.slice ad10 r_2.words.length cap11, .int .i64 r_2.out, .int .i64 r_2.within, .map b1129, .slice ad1126 r1117.1.swaps.length cap1127, .slice none 0 0, .slice none 0 0, .slice (some ⟨b1156, 0, none⟩) ((List.replicate requests.length (0 : Int)).length) requests.length]), (1, Own.list (some ⟨b1156, 0, none⟩) requests.length 31 1 (encI .i64) (List.replicate requests.length (0 : Int)))] w ∧ Has [] 63 a [(0, .slice ad1195 e1192.length cap1196), (1, .int .i64 (e1192.length : Int)), (2, .func (.func 88) [].toArray [.pointer (some q1114)].toArray), (6, .int .i64 20), (7, .int .i64 (s2995.1 : Int)), (8, .int .i64 (s2995.2.1 : Int))] ∧ s2995.2.2.length = e1192.length) ?_ ?_
         ·intro a w hS hA
          exact ⟨hS, hA.cut ⟨rfl, rfl, rfl, rfl, rfl, rfl, tv⟩, rfl⟩
         ·rintro j s2995 y2999 hr2997 hz2998 a w ⟨hS, hA, hln2996⟩
          refine TG.ap ?_ hS hA
          unfold m29_2 at hr2997
          refine sq (sq (rg (m1 rfl (m1 rfl (leI rfl rfl rfl (on ?_))))))
          refine ci rfl (fun hc3003 => ?_) (fun hc3003 => ?_)
          ·have hr3004 := if_p hc3003 hr2997
           refine sk (bk (sq (rg (m1 rfl (m1 rfl (m1 rfl (m1 rfl ?_)))))))
           obtain ⟨t3423, hx3424, hr3425⟩ := bd_some hr3004
           refine clI C122 Tryz.func122 rfl Tryz.ntmps122 rfl rfl rfl rfl (fun v w => (v = .tuple #[] ∧ St M W H [K1157, K1131, K1120, K1115, K1112, K1109, K17, K14, H] [(4, Own.list ad1195 cap1196 3 1 (encI .i64) t3423), (2, cel b1158 133 [.slice ad10 r_2.words.length cap11, .int .i64 r_2.out, .int .i64 r_2.within, .map b1129, .slice ad1126 r1117.1.swaps.length cap1127, .slice none 0 0, .slice none 0 0, .slice (some ⟨b1156, 0, none⟩) ((List.replicate requests.length (0 : Int)).length) requests.length]), (1, Own.list (some ⟨b1156, 0, none⟩) requests.length 31 1 (encI .i64) (List.replicate requests.length (0 : Int)))] w ∧ t3423.length = e1192.length)) ?_ ?_
           ·refine sq (rg (m1 rfl ?_))
            obtain ⟨hk3427, hr3428⟩ := chk_some hx3424
            refine adI rfl rfl rfl hk3427 (a1 rfl (on ?_))
            obtain ⟨e3631, hl3632, hr3633⟩ := bd_some hr3428
            refine jn (fun a w => St M W H [K1157, K1131, K1120, K1115, K1112, K1109, K17, K14, H] [(4, Own.list ad1195 cap1196 3 1 (encI .i64) e3631), (2, cel b1158 133 [.slice ad10 r_2.words.length cap11, .int .i64 r_2.out, .int .i64 r_2.within, .map b1129, .slice ad1126 r1117.1.swaps.length cap1127, .slice none 0 0, .slice none 0 0, .slice (some ⟨b1156, 0, none⟩) ((List.replicate requests.length (0 : Int)).length) requests.length]), (1, Own.list (some ⟨b1156, 0, none⟩) requests.length 31 1 (encI .i64) (List.replicate requests.length (0 : Int)))] w ∧ Has [] 53 a [] ∧ e3631.length = e1192.length) ?_ ?_
            ·refine bk ?_
             refine lp hl3632 (fun s3635 a w => St M W H [K1157, K1131, K1120, K1115, K1112, K1109, K17, K14, H] [(4, Own.list ad1195 cap1196 3 1 (encI .i64) s3635.2), (2, cel b1158 133 [.slice ad10 r_2.words.length cap11, .int .i64 r_2.out, .int .i64 r_2.within, .map b1129, .slice ad1126 r1117.1.swaps.length cap1127, .slice none 0 0, .slice none 0 0, .slice (some ⟨b1156, 0, none⟩) ((List.replicate requests.length (0 : Int)).length) requests.length]), (1, Own.list (some ⟨b1156, 0, none⟩) requests.length 31 1 (encI .i64) (List.replicate requests.length (0 : Int)))] w ∧ Has [] 53 a [(0, .slice ad1195 e1192.length cap1196), (1, .int .i64 (s2995.1 : Int)), (2, .int .i64 (s2995.2.1 : Int)), (3, .func (.func 88) [].toArray [.pointer (some q1114)].toArray), (8, .int .i64 (s3635.1 : Int))] ∧ s3635.2.length = e1192.length) ?_ ?_
             ·intro a w hS hA
              exact ⟨hS, hA.cut ⟨rfl, rfl, rfl, rfl, rfl, tv⟩, hln2996⟩
             ·rintro j s3635 y3639 hr3637 hz3638 a w ⟨hS, hA, hln3636⟩
              refine TG.ap ?_ hS hA
              unfold m29_3 at hr3637
              refine sq (sq (rg (m1 rfl (m1 rfl (ltI rfl rfl rfl (on ?_))))))
              refine ci rfl (fun hc3643 => ?_) (fun hc3643 => ?_)
              ·have hr3644 := if_p hc3643 hr3637
               refine sk (sq (bk (sq (rg (m1 rfl (a1 rfl (on ?_)))))))
               obtain ⟨e3831, hl3832, hr3833⟩ := bd_some hr3644
               refine jn (fun a w => St M W H [K1157, K1131, K1120, K1115, K1112, K1109, K17, K14, H] [(4, Own.list ad1195 cap1196 3 1 (encI .i64) e3831), (2, cel b1158 133 [.slice ad10 r_2.words.length cap11, .int .i64 r_2.out, .int .i64 r_2.within, .map b1129, .slice ad1126 r1117.1.swaps.length cap1127, .slice none 0 0, .slice none 0 0, .slice (some ⟨b1156, 0, none⟩) ((List.replicate requests.length (0 : Int)).length) requests.length]), (1, Own.list (some ⟨b1156, 0, none⟩) requests.length 31 1 (encI .i64) (List.replicate requests.length (0 : Int)))] w ∧ Has [] 53 a [(0, .slice ad1195 e1192.length cap1196), (1, .int .i64 (s2995.1 : Int)), (2, .int .i64 (s2995.2.1 : Int)), (3, .func (.func 88) [].toArray [.pointer (some q1114)].toArray), (8, .int .i64 (s3635.1 : Int))] ∧ e3831.length = e1192.length) ?_ ?_
               ·refine bk ?_
                refine lp hl3832 (fun s3835 a w => St M W H [K1157, K1131, K1120, K1115, K1112, K1109, K17, K14, H] [(4, Own.list ad1195 cap1196 3 1 (encI .i64) s3835.2), (2, cel b1158 133 [.slice ad10 r_2.words.length cap11, .int .i64 r_2.out, .int .i64 r_2.within, .map b1129, .slice ad1126 r1117.1.swaps.length cap1127, .slice none 0 0, .slice none 0 0, .slice (some ⟨b1156, 0, none⟩) ((List.replicate requests.length (0 : Int)).length) requests.length]), (1, Own.list (some ⟨b1156, 0, none⟩) requests.length 31 1 (encI .i64) (List.replicate requests.length (0 : Int)))] w ∧ Has [] 53 a [(0, .slice ad1195 e1192.length cap1196), (1, .int .i64 (s2995.1 : Int)), (2, .int .i64 (s2995.2.1 : Int)), (3, .func (.func 88) [].toArray [.pointer (some q1114)].toArray), (8, .int .i64 (s3635.1 : Int)), (9, .int .i64 s3835.1)] ∧ s3835.2.length = e1192.length) ?_ ?_
                ·intro a w hS hA
                 exact ⟨hS, hA.cut ⟨rfl, rfl, rfl, rfl, rfl, rfl, tv⟩, hln3636⟩
                ·rintro j s3835 y3839 hr3837 hz3838 a w ⟨hS, hA, hln3836⟩
                 refine TG.ap ?_ hS hA
                 unfold m29_4 at hr3837
                 refine sq (sq ?_)
                 obtain ⟨t3861, hx3862, hr3863⟩ := bd_some hr3837
                 refine jn (fun a w => St M W H [K1157, K1131, K1120, K1115, K1112, K1109, K17, K14, H] [(4, Own.list ad1195 cap1196 3 1 (encI .i64) s3835.2), (2, cel b1158 133 [.slice ad10 r_2.words.length cap11, .int .i64 r_2.out, .int .i64 r_2.within, .map b1129, .slice ad1126 r1117.1.swaps.length cap1127, .slice none 0 0, .slice none 0 0, .slice (some ⟨b1156, 0, none⟩) ((List.replicate requests.length (0 : Int)).length) requests.length]), (1, Own.list (some ⟨b1156, 0, none⟩) requests.length 31 1 (encI .i64) (List.replicate requests.length (0 : Int)))] w ∧ Has [] 53 a [(0, .slice ad1195 e1192.length cap1196), (1, .int .i64 (s2995.1 : Int)), (2, .int .i64 (s2995.2.1 : Int)), (3, .func (.func 88) [].toArray [.pointer (some q1114)].toArray), (8, .int .i64 (s3635.1 : Int)), (9, .int .i64 s3835.1), (34, .bool t3861)]) ?_ ?_
                 ·by_cases hb3864 : (s2995.1 : Int) < s3835.1
                  ·have hr3865 := if_p hb3864 hx3862
                   obtain ⟨hk3866, hr3867⟩ := chk_some hr3865
                   obtain ⟨x3868, hx3869, hr3870⟩ := bd_some hr3867
                   refine TG.addr 4 rfl (lt_of0 hx3869) fun b3871 h => ?_; subst h
                   obtain ⟨hk3872, hr3873⟩ := chk_some hr3870
                   obtain ⟨hk3874, hr3875⟩ := chk_some hr3873
                   obtain ⟨x3876, hx3877, hr3878⟩ := bd_some hr3875
                   refine drG 14 mixed (by kernel_rfl) rfl (dt rfl (m1 rfl fin1) (dt rfl (m1 rfl fin1) (dt rfl (gtI rfl rfl rfl fin1) (dt rfl (m1 rfl fin1) (dt rfl (gt hb3864 rfl (m1 rfl fin1)) (dt rfl (gt hb3864 rfl (m1 rfl fin1)) (dt rfl (gt hb3864 rfl (m1 rfl fin1)) (dt rfl (gt hb3864 rfl (iaP U86 Z3 rfl rfl rfl (by omega) (Nat.lt_of_lt_of_eq (lt_of hx3869) hln3836) fin1)) (dt rfl (gt hb3864 rfl (ld G3 rfl rfl (sE 4 rfl (fun _ => rfl) hx3869) rfl fin1)) (dt rfl (gt hb3864 rfl (m1 rfl fin1)) (dt rfl (gt hb3864 rfl (m1 rfl fin1)) ?_)))))))))))
                   refine dt rfl (gt hb3864 rfl (sbI rfl rfl rfl hk3872 fin1)) (dt rfl (gt hb3864 rfl (iaP U86 Z3 rfl rfl rfl (by omega) (Nat.lt_of_lt_of_eq (lt_of hx3877) hln3836) fin1)) (dt rfl (gt hb3864 rfl (ld G3 rfl rfl (sE 4 rfl (fun _ => rfl) hx3877) rfl fin1)) (DF.nil fun K3879 hF => (gt hb3864 rfl ?_))))
                   obtain ⟨r3880, hx3881, hr3882⟩ := bd_some hr3878
                   refine clS C88 rfl rfl rfl rfl (fun w H hH le => w88 hH x3868 x3876 (f0_ := requests) (hK1116.mono (le.at 4 rfl)) (h_requests.mono (RRequest.mono) (le.at 9 rfl)) hx3881) (gt hb3864 rfl (ltI rfl rfl rfl (pt hb3864 rfl rfl (on ?_))))
                   cases hr3882
                   intro a w hS hA
                   exact ⟨hS.selH [1, 2, 3, 4, 5, 6, 7, 8, 9] rfl, hA.cut ⟨rfl, rfl, rfl, rfl, rfl, rfl, rfl, tv⟩⟩
                  ·have hr3883 := if_n hb3864 hx3862
                   refine drG 14 mixed (by kernel_rfl) rfl (dt rfl (m1 rfl fin1) (dt rfl (m1 rfl fin1) (dt rfl (gtI rfl rfl rfl fin1) (dt rfl (m1 rfl fin1) (dt rfl (gf hb3864 rfl fin1) (dt rfl (gf hb3864 rfl fin1) (dt rfl (gf hb3864 rfl fin1) (dt rfl (gf hb3864 rfl fin1) (dt rfl (gf hb3864 rfl fin1) (dt rfl (gf hb3864 rfl fin1) (dt rfl (gf hb3864 rfl fin1) ?_)))))))))))
                   refine dt rfl (gf hb3864 rfl fin1) (dt rfl (gf hb3864 rfl fin1) (dt rfl (gf hb3864 rfl fin1) (DF.nil fun K3884 hF => (gf hb3864 rfl (gf hb3864 rfl (pf hb3864 rfl rfl (on ?_)))))))
                   cases hr3883
                   intro a w hS hA
                   exact ⟨hS.selH [1, 2, 3, 4, 5, 6, 7, 8, 9] rfl, hA.cut ⟨rfl, rfl, rfl, rfl, rfl, rfl, rfl, tv⟩⟩
                 ·rintro a w ⟨hS, hA⟩
                  refine TG.ap ?_ hS hA
                  refine cb rfl (fun hc3888 => ?_) (fun hc3888 => ?_)
                  ·have hr3889 := if_p hc3888 hr3863
                   refine sk (sq (bk ?_))
                   obtain ⟨hk3909, hr3910⟩ := chk_some hr3889
                   obtain ⟨hk3911, hr3912⟩ := chk_some hr3910
                   obtain ⟨x3913, hx3914, hr3915⟩ := bd_some hr3912
                   refine TG.addr 4 rfl (lt_of0 hx3914) fun b3916 h => ?_; subst h
                   obtain ⟨hk3917, hr3918⟩ := chk_some hr3915
                   obtain ⟨x3919, hx3920, hr3921⟩ := bd_some hr3918
                   refine drG3 14 [] [(2, 39, .slice (some ⟨b3916, 0, none⟩) e1192.length cap1196), (3, 40, .int .i64 s3835.1), (4, 41, .int .i64 (s3835.1 - 1))] mixed (fun _ _ _ _ _ h => h) (by kernel_rfl) (by kernel_rfl) (by kernel_rfl) rfl (by kernel_rfl) (.cons rfl rfl rfl (fun _ => rfl) (by kernel_rfl) (by kernel_rfl) (fun _ _ => rfl) (mvY rfl) (.cons rfl rfl rfl (fun _ => rfl) (by kernel_rfl) (by kernel_rfl) (fun _ _ => rfl) (mvY rfl) (.cons rfl rfl rfl (fun _ => rfl) (by kernel_rfl) (by kernel_rfl) (fun _ _ => rfl) (sbIY rfl rfl hk3909) (.nil)))) (dc rfl (by kernel_rfl) tv rfl rfl (m1 rfl fin1) (dc rfl (by kernel_rfl) tv rfl rfl (m1 rfl fin1) (DC.pre (.head _) rfl (DC.pre (.tail _ (.head _)) rfl (DC.pre (.tail _ (.tail _ (.head _))) rfl (dc rfl (by kernel_rfl) tv rfl rfl (m1 rfl fin1) (dc rfl (by kernel_rfl) tv rfl rfl (m1 rfl fin1) (dc rfl (by kernel_rfl) tv rfl rfl (sbI rfl rfl rfl hk3909 fin1) (dc rfl (by kernel_rfl) tv rfl rfl (iaP U86 Z3 rfl rfl rfl (by omega) (Nat.lt_of_lt_of_eq (lt_of hx3914) hln3836) fin1) (dc rfl (by kernel_rfl) tv rfl rfl (ld G3 rfl rfl (sE 4 rfl (fun _ => rfl) hx3914) rfl fin1) (dc rfl (by kernel_rfl) tv rfl rfl (m1 rfl fin1) ?_)))))))))))
                   refine dc rfl (by kernel_rfl) tv rfl rfl (m1 rfl fin1) (dc rfl (by kernel_rfl) tv rfl rfl (iaP U86 Z3 rfl rfl rfl (by omega) (Nat.lt_of_lt_of_eq (lt_of hx3920) hln3836) fin1) (dc rfl (by kernel_rfl) tv rfl rfl (ld G3 rfl rfl (sE 4 rfl (fun _ => rfl) hx3920) rfl fin1) (DC.nil fun K3922 hF => (iaP U86 Z3 rfl rfl rfl (by omega) (Nat.lt_of_lt_of_eq (lt_of hx3920) hln3836) ?_))))
                   have hln3923 : (s3835.2.set s3835.1.toNat x3913).length = e1192.length := (lenS _ _ _).trans hln3836
                   refine stE 4 x3913 (q := ⟨b3916, 0, none⟩) (j := s3835.1.toNat) (size := 1) (cs := [.int .i64 x3913]) (off := 0) Z3 rfl rfl rfl (fun _ => rfl) hx3920 rfl rfl rfl rfl rfl ?_
                   obtain ⟨x3924, hx3925, hr3926⟩ := bd_some hr3921
                   refine iaP U86 Z3 rfl rfl rfl (by omega) (Nat.lt_of_lt_of_eq (lt_of hx3925) hln3923) ?_
                   have hln3927 : ((s3835.2.set s3835.1.toNat x3913).set ((s3835.1 - 1).toNat) x3919).length = e1192.length := (lenS _ _ _).trans hln3923
                   refine stE 4 x3919 (q := ⟨b3916, 0, none⟩) (j := (s3835.1 - 1).toNat) (size := 1) (cs := [.int .i64 x3919]) (off := 0) Z3 rfl rfl rfl (fun _ => rfl) hx3925 rfl rfl rfl rfl rfl (on (rg (m1 rfl (sbI rfl rfl rfl hk3909 (a1 rfl (on ?_))))))
                   cases hr3926
                   intro a w hS hA
                   exact ⟨_, hz3838, hS.selH [1, 2, 3, 4, 5, 6, 7, 8, 9] rfl, hA.cut ⟨rfl, rfl, rfl, rfl, rfl, rfl, tv⟩, hln3927⟩
                  ·have hr3928 := if_f hc3888 hr3863
                   refine xt rfl ?_
                   cases hr3928
                   obtain rfl := Fin.out hz3838
                   intro a w hS hA
                   exact ⟨hS, hA.cut ⟨rfl, rfl, rfl, rfl, rfl, tv⟩, hln3836⟩
               ·rintro a w ⟨hS, hA, hln3834⟩
                refine TG.ap ?_ hS hA
                refine rg (m1 rfl ?_)
                obtain ⟨hk3929, hr3930⟩ := chk_some hr3833
                refine adI rfl rfl rfl hk3929 (a1 rfl (on ?_))
                cases hr3930
                intro a w hS hA
                exact ⟨_, hz3638, hS, hA.cut ⟨rfl, rfl, rfl, rfl, rfl, tv⟩, hln3834⟩
              ·have hr3931 := if_n hc3643 hr3637
               refine xt rfl ?_
               cases hr3931
               obtain rfl := Fin.out hz3638
               intro a w hS hA
               exact ⟨hS, hA.cut tv, hln3636⟩
            ·rintro a w ⟨hS, hA, hln3634⟩
             refine TG.ap ?_ hS hA
             cases hr3633
             intro a w hS hA
             refine ret0 hA rfl ?_
             exact ⟨_, rfl, ⟨rfl, hS, hln3634⟩⟩
           ·rintro a w v hA (⟨rfl, hS, hln3426⟩)
            refine putK rfl hA hS (on (sq (rg (m1 rfl (a1 rfl (on (rg (m1 rfl (m1 rfl ?_)))))))))
            obtain ⟨hk3932, hr3933⟩ := chk_some hr3425
            refine adI rfl rfl rfl hk3932 (a1 rfl (on ?_))
            cases hr3933
            intro a w hS hA
            exact ⟨_, hz2998, hS, hA.cut ⟨rfl, rfl, rfl, rfl, rfl, rfl, tv⟩, hln3426⟩
          ·have hr3934 := if_n hc3003 hr2997
           refine xt rfl ?_
           cases hr3934
           obtain rfl := Fin.out hz2998
           intro a w hS hA
           exact ⟨hS, hA.cut ⟨rfl, rfl, rfl, rfl, rfl, tv⟩, hln2996⟩
        ·rintro a w ⟨hS, hA, hln2994⟩
         refine TG.ap ?_ hS hA
         refine sq (rg (m1 rfl (m1 rfl (m1 rfl (m1 rfl ?_)))))
         obtain ⟨t4137, hx4138, hr4139⟩ := bd_some hr2993
         refine clI C122 Tryz.func122 rfl Tryz.ntmps122 rfl rfl rfl rfl (fun v w => (v = .tuple #[] ∧ St M W H [K1157, K1131, K1120, K1115, K1112, K1109, K17, K14, H] [(4, Own.list ad1195 cap1196 3 1 (encI .i64) t4137), (2, cel b1158 133 [.slice ad10 r_2.words.length cap11, .int .i64 r_2.out, .int .i64 r_2.within, .map b1129, .slice ad1126 r1117.1.swaps.length cap1127, .slice none 0 0, .slice none 0 0, .slice (some ⟨b1156, 0, none⟩) ((List.replicate requests.length (0 : Int)).length) requests.length]), (1, Own.list (some ⟨b1156, 0, none⟩) requests.length 31 1 (encI .i64) (List.replicate requests.length (0 : Int)))] w ∧ t4137.length = e1192.length)) ?_ ?_
         ·refine sq (rg (m1 rfl ?_))
          obtain ⟨hk4141, hr4142⟩ := chk_some hx4138
          refine adI rfl rfl rfl hk4141 (a1 rfl (on ?_))
          obtain ⟨e4341, hl4342, hr4343⟩ := bd_some hr4142
          refine jn (fun a w => St M W H [K1157, K1131, K1120, K1115, K1112, K1109, K17, K14, H] [(4, Own.list ad1195 cap1196 3 1 (encI .i64) e4341), (2, cel b1158 133 [.slice ad10 r_2.words.length cap11, .int .i64 r_2.out, .int .i64 r_2.within, .map b1129, .slice ad1126 r1117.1.swaps.length cap1127, .slice none 0 0, .slice none 0 0, .slice (some ⟨b1156, 0, none⟩) ((List.replicate requests.length (0 : Int)).length) requests.length]), (1, Own.list (some ⟨b1156, 0, none⟩) requests.length 31 1 (encI .i64) (List.replicate requests.length (0 : Int)))] w ∧ Has [] 53 a [] ∧ e4341.length = e1192.length) ?_ ?_
          ·refine bk ?_
           refine lp hl4342 (fun s4345 a w => St M W H [K1157, K1131, K1120, K1115, K1112, K1109, K17, K14, H] [(4, Own.list ad1195 cap1196 3 1 (encI .i64) s4345.2), (2, cel b1158 133 [.slice ad10 r_2.words.length cap11, .int .i64 r_2.out, .int .i64 r_2.within, .map b1129, .slice ad1126 r1117.1.swaps.length cap1127, .slice none 0 0, .slice none 0 0, .slice (some ⟨b1156, 0, none⟩) ((List.replicate requests.length (0 : Int)).length) requests.length]), (1, Own.list (some ⟨b1156, 0, none⟩) requests.length 31 1 (encI .i64) (List.replicate requests.length (0 : Int)))] w ∧ Has [] 53 a [(0, .slice ad1195 e1192.length cap1196), (1, .int .i64 (e2991.1 : Int)), (2, .int .i64 (e1192.length : Int)), (3, .func (.func 88) [].toArray [.pointer (some q1114)].toArray), (8, .int .i64 (s4345.1 : Int))] ∧ s4345.2.length = e1192.length) ?_ ?_
           ·intro a w hS hA
            exact ⟨hS, hA.cut ⟨rfl, rfl, rfl, rfl, rfl, tv⟩, hln2994⟩
           ·rintro j s4345 y4349 hr4347 hz4348 a w ⟨hS, hA, hln4346⟩
            refine TG.ap ?_ hS hA
            unfold m29_5 at hr4347
            refine sq (sq (rg (m1 rfl (m1 rfl (ltI rfl rfl rfl (on ?_))))))
            refine ci rfl (fun hc4353 => ?_) (fun hc4353 => ?_)
            ·have hr4354 := if_p hc4353 hr4347
             refine sk (sq (bk (sq (rg (m1 rfl (a1 rfl (on ?_)))))))
             obtain ⟨e4541, hl4542, hr4543⟩ := bd_some hr4354
             refine jn (fun a w => St M W H [K1157, K1131, K1120, K1115, K1112, K1109, K17, K14, H] [(4, Own.list ad1195 cap1196 3 1 (encI .i64) e4541), (2, cel b1158 133 [.slice ad10 r_2.words.length cap11, .int .i64 r_2.out, .int .i64 r_2.within, .map b1129, .slice ad1126 r1117.1.swaps.length cap1127, .slice none 0 0, .slice none 0 0, .slice (some ⟨b1156, 0, none⟩) ((List.replicate requests.length (0 : Int)).length) requests.length]), (1, Own.list (some ⟨b1156, 0, none⟩) requests.length 31 1 (encI .i64) (List.replicate requests.length (0 : Int)))] w ∧ Has [] 53 a [(0, .slice ad1195 e1192.length cap1196), (1, .int .i64 (e2991.1 : Int)), (2, .int .i64 (e1192.length : Int)), (3, .func (.func 88) [].toArray [.pointer (some q1114)].toArray), (8, .int .i64 (s4345.1 : Int))] ∧ e4541.length = e1192.length) ?_ ?_
             ·refine bk ?_
              refine lp hl4542 (fun s4545 a w => St M W H [K1157, K1131, K1120, K1115, K1112, K1109, K17, K14, H] [(4, Own.list ad1195 cap1196 3 1 (encI .i64) s4545.2), (2, cel b1158 133 [.slice ad10 r_2.words.length cap11, .int .i64 r_2.out, .int .i64 r_2.within, .map b1129, .slice ad1126 r1117.1.swaps.length cap1127, .slice none 0 0, .slice none 0 0, .slice (some ⟨b1156, 0, none⟩) ((List.replicate requests.length (0 : Int)).length) requests.length]), (1, Own.list (some ⟨b1156, 0, none⟩) requests.length 31 1 (encI .i64) (List.replicate requests.length (0 : Int)))] w ∧ Has [] 53 a [(0, .slice ad1195 e1192.length cap1196), (1, .int .i64 (e2991.1 : Int)), (2, .int .i64 (e1192.length : Int)), (3, .func (.func 88) [].toArray [.pointer (some q1114)].toArray), (8, .int .i64 (s4345.1 : Int)), (9, .int .i64 s4545.1)] ∧ s4545.2.length = e1192.length) ?_ ?_
              ·intro a w hS hA
               exact ⟨hS, hA.cut ⟨rfl, rfl, rfl, rfl, rfl, rfl, tv⟩, hln4346⟩
              ·rintro j s4545 y4549 hr4547 hz4548 a w ⟨hS, hA, hln4546⟩
               refine TG.ap ?_ hS hA
               unfold m29_6 at hr4547
               refine sq (sq ?_)
               obtain ⟨t4571, hx4572, hr4573⟩ := bd_some hr4547
               refine jn (fun a w => St M W H [K1157, K1131, K1120, K1115, K1112, K1109, K17, K14, H] [(4, Own.list ad1195 cap1196 3 1 (encI .i64) s4545.2), (2, cel b1158 133 [.slice ad10 r_2.words.length cap11, .int .i64 r_2.out, .int .i64 r_2.within, .map b1129, .slice ad1126 r1117.1.swaps.length cap1127, .slice none 0 0, .slice none 0 0, .slice (some ⟨b1156, 0, none⟩) ((List.replicate requests.length (0 : Int)).length) requests.length]), (1, Own.list (some ⟨b1156, 0, none⟩) requests.length 31 1 (encI .i64) (List.replicate requests.length (0 : Int)))] w ∧ Has [] 53 a [(0, .slice ad1195 e1192.length cap1196), (1, .int .i64 (e2991.1 : Int)), (2, .int .i64 (e1192.length : Int)), (3, .func (.func 88) [].toArray [.pointer (some q1114)].toArray), (8, .int .i64 (s4345.1 : Int)), (9, .int .i64 s4545.1), (34, .bool t4571)]) ?_ ?_
               ·by_cases hb4574 : (e2991.1 : Int) < s4545.1
                ·have hr4575 := if_p hb4574 hx4572
                 obtain ⟨hk4576, hr4577⟩ := chk_some hr4575
                 obtain ⟨x4578, hx4579, hr4580⟩ := bd_some hr4577
                 refine TG.addr 4 rfl (lt_of0 hx4579) fun b4581 h => ?_; subst h
                 obtain ⟨hk4582, hr4583⟩ := chk_some hr4580
                 obtain ⟨hk4584, hr4585⟩ := chk_some hr4583
                 obtain ⟨x4586, hx4587, hr4588⟩ := bd_some hr4585
                 refine drG 14 mixed (by kernel_rfl) rfl (dt rfl (m1 rfl fin1) (dt rfl (m1 rfl fin1) (dt rfl (gtI rfl rfl rfl fin1) (dt rfl (m1 rfl fin1) (dt rfl (gt hb4574 rfl (m1 rfl fin1)) (dt rfl (gt hb4574 rfl (m1 rfl fin1)) (dt rfl (gt hb4574 rfl (m1 rfl fin1)) (dt rfl (gt hb4574 rfl (iaP U86 Z3 rfl rfl rfl (by omega) (Nat.lt_of_lt_of_eq (lt_of hx4579) hln4546) fin1)) (dt rfl (gt hb4574 rfl (ld G3 rfl rfl (sE 4 rfl (fun _ => rfl) hx4579) rfl fin1)) (dt rfl (gt hb4574 rfl (m1 rfl fin1)) (dt rfl (gt hb4574 rfl (m1 rfl fin1)) ?_)))))))))))
                 refine dt rfl (gt hb4574 rfl (sbI rfl rfl rfl hk4582 fin1)) (dt rfl (gt hb4574 rfl (iaP U86 Z3 rfl rfl rfl (by omega) (Nat.lt_of_lt_of_eq (lt_of hx4587) hln4546) fin1)) (dt rfl (gt hb4574 rfl (ld G3 rfl rfl (sE 4 rfl (fun _ => rfl) hx4587) rfl fin1)) (DF.nil fun K4589 hF => (gt hb4574 rfl ?_))))
                 obtain ⟨r4590, hx4591, hr4592⟩ := bd_some hr4588
                 refine clS C88 rfl rfl rfl rfl (fun w H hH le => w88 hH x4578 x4586 (f0_ := requests) (hK1116.mono (le.at 4 rfl)) (h_requests.mono (RRequest.mono) (le.at 9 rfl)) hx4591) (gt hb4574 rfl (ltI rfl rfl rfl (pt hb4574 rfl rfl (on ?_))))
                 cases hr4592
                 intro a w hS hA
                 exact ⟨hS.selH [1, 2, 3, 4, 5, 6, 7, 8, 9] rfl, hA.cut ⟨rfl, rfl, rfl, rfl, rfl, rfl, rfl, tv⟩⟩
                ·have hr4593 := if_n hb4574 hx4572
                 refine drG 14 mixed (by kernel_rfl) rfl (dt rfl (m1 rfl fin1) (dt rfl (m1 rfl fin1) (dt rfl (gtI rfl rfl rfl fin1) (dt rfl (m1 rfl fin1) (dt rfl (gf hb4574 rfl fin1) (dt rfl (gf hb4574 rfl fin1) (dt rfl (gf hb4574 rfl fin1) (dt rfl (gf hb4574 rfl fin1) (dt rfl (gf hb4574 rfl fin1) (dt rfl (gf hb4574 rfl fin1) (dt rfl (gf hb4574 rfl fin1) ?_)))))))))))
                 refine dt rfl (gf hb4574 rfl fin1) (dt rfl (gf hb4574 rfl fin1) (dt rfl (gf hb4574 rfl fin1) (DF.nil fun K4594 hF => (gf hb4574 rfl (gf hb4574 rfl (pf hb4574 rfl rfl (on ?_)))))))
                 cases hr4593
                 intro a w hS hA
                 exact ⟨hS.selH [1, 2, 3, 4, 5, 6, 7, 8, 9] rfl, hA.cut ⟨rfl, rfl, rfl, rfl, rfl, rfl, rfl, tv⟩⟩
               ·rintro a w ⟨hS, hA⟩
                refine TG.ap ?_ hS hA
                refine cb rfl (fun hc4598 => ?_) (fun hc4598 => ?_)
                ·have hr4599 := if_p hc4598 hr4573
                 refine sk (sq (bk ?_))
                 obtain ⟨hk4619, hr4620⟩ := chk_some hr4599
                 obtain ⟨hk4621, hr4622⟩ := chk_some hr4620
                 obtain ⟨x4623, hx4624, hr4625⟩ := bd_some hr4622
                 refine TG.addr 4 rfl (lt_of0 hx4624) fun b4626 h => ?_; subst h
                 obtain ⟨hk4627, hr4628⟩ := chk_some hr4625
                 obtain ⟨x4629, hx4630, hr4631⟩ := bd_some hr4628
                 refine drG3 14 [] [(2, 39, .slice (some ⟨b4626, 0, none⟩) e1192.length cap1196), (3, 40, .int .i64 s4545.1), (4, 41, .int .i64 (s4545.1 - 1))] mixed (fun _ _ _ _ _ h => h) (by kernel_rfl) (by kernel_rfl) (by kernel_rfl) rfl (by kernel_rfl) (.cons rfl rfl rfl (fun _ => rfl) (by kernel_rfl) (by kernel_rfl) (fun _ _ => rfl) (mvY rfl) (.cons rfl rfl rfl (fun _ => rfl) (by kernel_rfl) (by kernel_rfl) (fun _ _ => rfl) (mvY rfl) (.cons rfl rfl rfl (fun _ => rfl) (by kernel_rfl) (by kernel_rfl) (fun _ _ => rfl) (sbIY rfl rfl hk4619) (.nil)))) (dc rfl (by kernel_rfl) tv rfl rfl (m1 rfl fin1) (dc rfl (by kernel_rfl) tv rfl rfl (m1 rfl fin1) (DC.pre (.head _) rfl (DC.pre (.tail _ (.head _)) rfl (DC.pre (.tail _ (.tail _ (.head _))) rfl (dc rfl (by kernel_rfl) tv rfl rfl (m1 rfl fin1) (dc rfl (by kernel_rfl) tv rfl rfl (m1 rfl fin1) (dc rfl (by kernel_rfl) tv rfl rfl (sbI rfl rfl rfl hk4619 fin1) (dc rfl (by kernel_rfl) tv rfl rfl (iaP U86 Z3 rfl rfl rfl (by omega) (Nat.lt_of_lt_of_eq (lt_of hx4624) hln4546) fin1) (dc rfl (by kernel_rfl) tv rfl rfl (ld G3 rfl rfl (sE 4 rfl (fun _ => rfl) hx4624) rfl fin1) (dc rfl (by kernel_rfl) tv rfl rfl (m1 rfl fin1) ?_)))))))))))
                 refine dc rfl (by kernel_rfl) tv rfl rfl (m1 rfl fin1) (dc rfl (by kernel_rfl) tv rfl rfl (iaP U86 Z3 rfl rfl rfl (by omega) (Nat.lt_of_lt_of_eq (lt_of hx4630) hln4546) fin1) (dc rfl (by kernel_rfl) tv rfl rfl (ld G3 rfl rfl (sE 4 rfl (fun _ => rfl) hx4630) rfl fin1) (DC.nil fun K4632 hF => (iaP U86 Z3 rfl rfl rfl (by omega) (Nat.lt_of_lt_of_eq (lt_of hx4630) hln4546) ?_))))
                 have hln4633 : (s4545.2.set s4545.1.toNat x4623).length = e1192.length := (lenS _ _ _).trans hln4546
                 refine stE 4 x4623 (q := ⟨b4626, 0, none⟩) (j := s4545.1.toNat) (size := 1) (cs := [.int .i64 x4623]) (off := 0) Z3 rfl rfl rfl (fun _ => rfl) hx4630 rfl rfl rfl rfl rfl ?_
                 obtain ⟨x4634, hx4635, hr4636⟩ := bd_some hr4631
                 refine iaP U86 Z3 rfl rfl rfl (by omega) (Nat.lt_of_lt_of_eq (lt_of hx4635) hln4633) ?_
                 have hln4637 : ((s4545.2.set s4545.1.toNat x4623).set ((s4545.1 - 1).toNat) x4629).length = e1192.length := (lenS _ _ _).trans hln4633
                 refine stE 4 x4629 (q := ⟨b4626, 0, none⟩) (j := (s4545.1 - 1).toNat) (size := 1) (cs := [.int .i64 x4629]) (off := 0) Z3 rfl rfl rfl (fun _ => rfl) hx4635 rfl rfl rfl rfl rfl (on (rg (m1 rfl (sbI rfl rfl rfl hk4619 (a1 rfl (on ?_))))))
                 cases hr4636
                 intro a w hS hA
                 exact ⟨_, hz4548, hS.selH [1, 2, 3, 4, 5, 6, 7, 8, 9] rfl, hA.cut ⟨rfl, rfl, rfl, rfl, rfl, rfl, tv⟩, hln4637⟩
                ·have hr4638 := if_f hc4598 hr4573
                 refine xt rfl ?_
                 cases hr4638
                 obtain rfl := Fin.out hz4548
                 intro a w hS hA
                 exact ⟨hS, hA.cut ⟨rfl, rfl, rfl, rfl, rfl, tv⟩, hln4546⟩
             ·rintro a w ⟨hS, hA, hln4544⟩
              refine TG.ap ?_ hS hA
              refine rg (m1 rfl (adI rfl rfl rfl (by omega) (a1 rfl (on ?_))))
              cases hr4543
              intro a w hS hA
              exact ⟨_, hz4348, hS, hA.cut ⟨rfl, rfl, rfl, rfl, rfl, tv⟩, hln4544⟩
            ·have hr4639 := if_n hc4353 hr4347
             refine xt rfl ?_
             cases hr4639
             obtain rfl := Fin.out hz4348
             intro a w hS hA
             exact ⟨hS, hA.cut tv, hln4346⟩
          ·rintro a w ⟨hS, hA, hln4344⟩
           refine TG.ap ?_ hS hA
           cases hr4343
           intro a w hS hA
           refine ret0 hA rfl ?_
           exact ⟨_, rfl, ⟨rfl, hS, hln4344⟩⟩
         ·rintro a w v hA (⟨rfl, hS, hln4140⟩)
          refine putK rfl hA hS (on ?_)
          obtain ⟨e4660, hl4661, hr4662⟩ := bd_some hr4139
          refine jn (fun a w => St M W H [K1157, K1131, K1120, K1115, K1112, K1109, K17, K14, H] [(4, Own.list ad1195 cap1196 3 1 (encI .i64) t4137), (2, cel b1158 133 [.slice ad10 r_2.words.length cap11, .int .i64 r_2.out, .int .i64 r_2.within, .map b1129, .slice ad1126 r1117.1.swaps.length cap1127, .slice none 0 0, .slice none 0 0, .slice (some ⟨b1156, 0, none⟩) ((List.replicate requests.length (0 : Int)).length) requests.length]), (1, Own.list (some ⟨b1156, 0, none⟩) requests.length 31 1 (encI .i64) (List.replicate requests.length (0 : Int)))] w ∧ Has [] 63 a []) ?_ ?_
          ·refine bk ?_
           refine lp hl4661 (fun s4663 a w => St M W H [K1157, K1131, K1120, K1115, K1112, K1109, K17, K14, H] [(4, Own.list ad1195 cap1196 3 1 (encI .i64) t4137), (2, cel b1158 133 [.slice ad10 r_2.words.length cap11, .int .i64 r_2.out, .int .i64 r_2.within, .map b1129, .slice ad1126 r1117.1.swaps.length cap1127, .slice none 0 0, .slice none 0 0, .slice (some ⟨b1156, 0, none⟩) ((List.replicate requests.length (0 : Int)).length) requests.length]), (1, Own.list (some ⟨b1156, 0, none⟩) requests.length 31 1 (encI .i64) (List.replicate requests.length (0 : Int)))] w ∧ Has [] 63 a [(0, .slice ad1195 e1192.length cap1196), (1, .int .i64 (e1192.length : Int)), (2, .func (.func 88) [].toArray [.pointer (some q1114)].toArray), (6, .int .i64 s4663)]) ?_ ?_
           ·exact cu ⟨rfl, rfl, rfl, rfl, tv⟩
           ·rintro j s4663 y4666 hr4664 hz4665 a w ⟨hS, hA⟩
            refine TG.ap ?_ hS hA
            unfold m29_7 at hr4664
            refine sq (sq (rg (m1 rfl (m1 rfl (ltI rfl rfl rfl (on ?_))))))
            refine ci rfl (fun hc4670 => ?_) (fun hc4670 => ?_)
            ·have hr4671 := if_p hc4670 hr4664
             refine sk (bk (sq (rg (m1 rfl ?_))))
             obtain ⟨hk4688, hr4689⟩ := chk_some hr4671
             refine mlI rfl rfl rfl hk4688 (a1 rfl (a1 rfl (on (sq ?_))))
             obtain ⟨e4696, hl4697, hr4698⟩ := bd_some hr4689
             refine jn (fun a w => St M W H [K1157, K1131, K1120, K1115, K1112, K1109, K17, K14, H] [(4, Own.list ad1195 cap1196 3 1 (encI .i64) t4137), (2, cel b1158 133 [.slice ad10 r_2.words.length cap11, .int .i64 r_2.out, .int .i64 r_2.within, .map b1129, .slice ad1126 r1117.1.swaps.length cap1127, .slice none 0 0, .slice none 0 0, .slice (some ⟨b1156, 0, none⟩) ((List.replicate requests.length (0 : Int)).length) requests.length]), (1, Own.list (some ⟨b1156, 0, none⟩) requests.length 31 1 (encI .i64) (List.replicate requests.length (0 : Int)))] w ∧ Has [] 63 a [(0, .slice ad1195 e1192.length cap1196), (1, .int .i64 (e1192.length : Int)), (2, .func (.func 88) [].toArray [.pointer (some q1114)].toArray), (6, .int .i64 s4663), (7, .int .i64 (e4696 : Int))]) ?_ ?_
             ·refine bk ?_
              refine lp hl4697 (fun s4699 a w => St M W H [K1157, K1131, K1120, K1115, K1112, K1109, K17, K14, H] [(4, Own.list ad1195 cap1196 3 1 (encI .i64) t4137), (2, cel b1158 133 [.slice ad10 r_2.words.length cap11, .int .i64 r_2.out, .int .i64 r_2.within, .map b1129, .slice ad1126 r1117.1.swaps.length cap1127, .slice none 0 0, .slice none 0 0, .slice (some ⟨b1156, 0, none⟩) ((List.replicate requests.length (0 : Int)).length) requests.length]), (1, Own.list (some ⟨b1156, 0, none⟩) requests.length 31 1 (encI .i64) (List.replicate requests.length (0 : Int)))] w ∧ Has [] 63 a [(0, .slice ad1195 e1192.length cap1196), (1, .int .i64 (e1192.length : Int)), (2, .func (.func 88) [].toArray [.pointer (some q1114)].toArray), (6, .int .i64 s4663), (7, .int .i64 (s4699.1 : Int)), (8, .int .i64 s4699.2)]) ?_ ?_
              ·exact cu ⟨rfl, rfl, rfl, rfl, rfl, rfl, tv⟩
              ·rintro j s4699 y4702 hr4700 hz4701 a w ⟨hS, hA⟩
               refine TG.ap ?_ hS hA
               unfold m29_8 at hr4700
               refine sq (sq (rg (m1 rfl (m1 rfl (leI rfl rfl rfl (on ?_))))))
               refine ci rfl (fun hc4706 => ?_) (fun hc4706 => ?_)
               ·have hr4707 := if_p hc4706 hr4700
                refine sk (bk (sq (rg (m1 rfl (m1 rfl (m1 rfl (m1 rfl ?_)))))))
                obtain ⟨hk4710, hr4711⟩ := chk_some hr4707
                refine adI rfl rfl rfl hk4710 (m1 rfl (m1 rfl ?_))
                cases hr4711
               ·have hr4712 := if_n hc4706 hr4700
                refine xt rfl ?_
                cases hr4712
                obtain rfl := Fin.out hz4701
                exact cu ⟨rfl, rfl, rfl, rfl, rfl, tv⟩
             ·rintro a w ⟨hS, hA⟩
              refine TG.ap ?_ hS hA
              refine sq (sq (rg (m1 rfl (m1 rfl ?_))))
              obtain ⟨hk4713, hr4714⟩ := chk_some hr4698
              refine adI rfl rfl rfl hk4713 (a1 rfl (on (sq (rg (m1 rfl (m1 rfl (ltI rfl rfl rfl (on ?_))))))))
              refine ci rfl (fun hc4718 => ?_) (fun hc4718 => ?_)
              ·have hr4719 := if_p hc4718 hr4714
               refine rg (m1 rfl (m1 rfl (m1 rfl (m1 rfl (m1 rfl ?_)))))
               cases hr4719
              ·have hr4720 := if_n hc4718 hr4714
               refine sk (rg (m1 rfl ?_))
               obtain ⟨hk4721, hr4722⟩ := chk_some hr4720
               refine mlI rfl rfl rfl hk4721 (a1 rfl (on ?_))
               cases hr4722
               intro a w hS hA
               exact ⟨_, hz4665, hS, hA.cut ⟨rfl, rfl, rfl, rfl, tv⟩⟩
            ·have hr4723 := if_n hc4670 hr4664
             refine xt rfl ?_
             cases hr4723
             obtain rfl := Fin.out hz4665
             exact cu tv
          ·rintro a w ⟨hS, hA⟩
           refine TG.ap ?_ hS hA
           cases hr4662
           intro a w hS hA
           refine ret0 hA rfl ?_
           exact ⟨_, rfl, ⟨rfl, hS, hln4140⟩⟩
       ·rintro a w v hA (⟨rfl, hS, hln2556⟩)
        refine putK rfl hA hS (on ?_)
        cases hr2555
        intro a w hS hA
        refine ret0 hA rfl ?_
        exact ⟨_, rfl, ⟨rfl, hS, hln2556⟩⟩
      ·rintro a w v hA (⟨rfl, hS, hln1889⟩)
       refine putK rfl hA hS (on (sq (sq (rg (m1 rfl (TG.len 4 rfl fun _ => (lnL U86 rfl rfl (m1 rfl (on (TG.nilRow 7 63 5 ?_))))))))))
       have hR4837 : Rows (RRequest) 5 H [] ([] : List Request) := tv
       refine TG.nilRow 8 3 1 (TG.as 8 (z := Own.list none 0 3 1 (encI .i64) ([] : List Int)) rfl rfl (TG.as 7 (z := Own.rows none 0 63 5 [] ([] : List Request)) rfl rfl ?_))
       obtain ⟨e5013, hl5014, hr5015⟩ := bd_some hr1888
       refine jn (fun a w => ∃ (ad5016 : Option Addr) (cap5017 : Nat) (ad5018 : Option Addr) (cap5019 : Nat) (css5020 : List (List Value)) (K5021 : Hp), St M W H [K5021, K1157, K1131, K1120, K1115, K1112, K1109, K17, K14, H] [(8, Own.list ad5016 cap5017 3 1 (encI .i64) e5013.1), (7, Own.rows ad5018 cap5019 63 5 css5020 e5013.2.1), (4, Own.list ad1195 cap1196 3 1 (encI .i64) t1886), (2, cel b1158 133 [.slice ad10 r_2.words.length cap11, .int .i64 r_2.out, .int .i64 r_2.within, .map b1129, .slice ad1126 r1117.1.swaps.length cap1127, .slice ad5018 e5013.2.1.length cap5019, .slice ad5016 e5013.1.length cap5017, .slice (some ⟨b1156, 0, none⟩) ((List.replicate requests.length (0 : Int)).length) requests.length]), (1, Own.list (some ⟨b1156, 0, none⟩) requests.length 31 1 (encI .i64) e5013.2.2)] w ∧ Has [] 106 a [(13, .pointer (some (⟨b1158, 0, none⟩)))] ∧ Rows (RRequest) 5 K5021 css5020 e5013.2.1 ∧ e5013.2.2.length = (List.replicate requests.length (0 : Int)).length) ?_ ?_
       ·refine bk ?_
        refine lp hl5014 (fun s5024 a w => ∃ (ad5025 : Option Addr) (cap5026 : Nat) (ad5027 : Option Addr) (cap5028 : Nat) (css5029 : List (List Value)) (K5030 : Hp), St M W H [K5030, K1157, K1131, K1120, K1115, K1112, K1109, K17, K14, H] [(8, Own.list ad5025 cap5026 3 1 (encI .i64) s5024.2.1), (7, Own.rows ad5027 cap5028 63 5 css5029 s5024.2.2.1), (4, Own.list ad1195 cap1196 3 1 (encI .i64) t1886), (2, cel b1158 133 [.slice ad10 r_2.words.length cap11, .int .i64 r_2.out, .int .i64 r_2.within, .map b1129, .slice ad1126 r1117.1.swaps.length cap1127, .slice ad5027 s5024.2.2.1.length cap5028, .slice ad5025 s5024.2.1.length cap5026, .slice (some ⟨b1156, 0, none⟩) ((List.replicate requests.length (0 : Int)).length) requests.length]), (1, Own.list (some ⟨b1156, 0, none⟩) requests.length 31 1 (encI .i64) s5024.2.2.2)] w ∧ Has [] 106 a [(7, .pointer (some q1114)), (13, .pointer (some (⟨b1158, 0, none⟩))), (55, .slice ad1195 e1192.length cap1196), (56, .int .i64 (e1192.length : Int)), (57, .int .i64 (s5024.1 : Int))] ∧ Rows (RRequest) 5 K5030 css5029 s5024.2.2.1 ∧ s5024.2.2.2.length = (List.replicate requests.length (0 : Int)).length) ?_ ?_
        ·intro a w hS hA
         exact ⟨none, 0, none, 0, [], H, hS.selH [8, 0, 1, 2, 3, 4, 5, 6, 7, 8] rfl, hA.cut ⟨rfl, rfl, rfl, rfl, rfl, tv⟩, hR4837, rfl⟩
        ·rintro j s5024 y5035 hr5033 hz5034 a w ⟨ad5025, cap5026, ad5027, cap5028, css5029, K5030, hS, hA, hR5031, hln5032⟩
         refine TG.ap ?_ hS hA
         unfold m29_9 at hr5033
         refine sq (rg (ltI rfl rfl rfl (on (sq ?_))))
         refine ci rfl (fun hc5039 => ?_) (fun hc5039 => ?_)
         ·have hr5040 := if_p hc5039 hr5033
          refine sk (sq (bk (sq (rg ?_))))
          obtain ⟨x5113, hx5114, hr5115⟩ := bd_some hr5040
          refine TG.addr 4 rfl (lt_of0 hx5114) fun b5116 h => ?_; subst h
          refine iaP U86 Z3 rfl rfl rfl rfl (Nat.lt_of_lt_of_eq (lt_of hx5114) hln1889) (ld G3 rfl rfl (sE 4 rfl (fun _ => rfl) hx5114) rfl (a1 rfl (on (sq ?_))))
          obtain ⟨hk5117, hr5118⟩ := chk_some hr5115
          obtain ⟨x5119, hx5120, hr5121⟩ := bd_some hr5118
          obtain ⟨p5122, rfl⟩ := h_requests.adr hx5120
          obtain ⟨cs5123, hcs5124, hq5125, hr5126⟩ := h_requests.at hx5120
          have hr5127 := hr5126
          obtain ⟨ad5128, cap5129, rfl, hl5130⟩ := hr5126
          have := hl5130.len
          obtain ⟨r5131, hx5132, hr5133⟩ := bd_some hr5121
          refine drG 11 mixed (by kernel_rfl) rfl (dt rfl (m1 rfl fin1) (dt rfl (nl rfl rfl fin1) (dt rfl (fb 7 U133 rfl rfl rfl rfl Z59 fin1) (dt rfl (ld G59 rfl rfl ((sO 2 rfl).drop 7) rfl fin1) (dt rfl (m1 rfl fin1) (dt rfl (m1 rfl fin1) (dt rfl (ld G64 rfl rfl (sS 5 rfl hK1116) rfl fin1) (dt rfl (m1 rfl fin1) (dt rfl (iaP U64 Z63 rfl rfl rfl (by omega) (lt_of hx5120) fin1) (dt rfl (ldA G63 Z63 rfl rfl (sS 10 rfl hq5125) rfl fin1) (dt rfl (clL C90 rfl rfl rfl rfl (fun w hS => w90 (Hp.le.refl (hp w)) (hg.mono (hS.hp 10 rfl)) (⟨r_2, r1117.1, s5024.2.2.1, s5024.2.1, s5024.2.2.2⟩ : decided) (cell_at (hS.get (t := 2) rfl)) ⟨ad10, cap11, (.map b1129), ad1126, cap1127, ad5027, cap5028, ad5025, cap5026, (some ⟨b1156, 0, none⟩), requests.length, (by simp only [hln5032]), (hl12.mono (Flat.mono _) (hS.hp 10 rfl)), (hm1125.mono (hS.hp 4 rfl)), (hl1128.mono (Flat.mono _) (hS.hp 4 rfl)), (rows_sl (H := hp w) (hS.get (t := 7) rfl) (hR5031.mono (RRequest.mono) (hS.hp 1 rfl)) (fun _ _ _ ho => ho)), (list_sl (H := hp w) (enc := encI .i64) (size := 1) (ad := ad5025) (cap := cap5026) (el := 3) (l := s5024.2.1) (fun _ => rfl) (hS.get (t := 8) rfl) (fun _ _ _ ho => ho)), (list_sl (H := hp w) (enc := encI .i64) (size := 1) (ad := (some ⟨b1156, 0, none⟩)) (cap := requests.length) (el := 31) (l := s5024.2.2.2) (fun _ => rfl) (hS.get (t := 1) rfl) (fun _ _ _ ho => ho))⟩ x5119 (RRequest.mono _ _ _ _ (hS.hp 10 rfl) hr5127) hx5132) fin1) ?_)))))))))))
          refine DF.nil fun K5134 hF => ?_
          obtain ⟨x5135, hx5136, hr5137⟩ := bd_some hr5133
          refine iaP U59 Z31 rfl rfl rfl (by omega) (Nat.lt_of_lt_of_eq (lt_of hx5136) hln5032) ?_
          have hln5138 : (s5024.2.2.2.set x5113.toNat r5131).length = (List.replicate requests.length (0 : Int)).length := (lenS _ _ _).trans hln5032
          refine stE 1 r5131 (q := ⟨b1156, 0, none⟩) (j := x5113.toNat) (size := 1) (cs := [.int .i64 r5131]) (off := 0) Z31 rfl rfl rfl (fun _ => rfl) hx5136 rfl rfl rfl rfl rfl (on (sq (rg (m1 rfl (nl rfl rfl (fb 7 U133 rfl rfl rfl rfl Z59 (ld G59 rfl rfl ((sO 2 rfl).drop 7) rfl (m1 rfl ?_))))))))
          obtain ⟨x5139, hx5140, hr5141⟩ := bd_some hr5137
          refine iaP U59 Z31 rfl rfl rfl (by omega) (Nat.lt_of_lt_of_eq (lt_of hx5140) hln5138) (ld G31 rfl rfl (sE 1 rfl (fun _ => rfl) hx5140) rfl (eqI rfl rfl rfl (on ?_)))
          obtain ⟨t5177, hx5178, hr5179⟩ := bd_some hr5141
          refine jn (fun a w => ∃ (ad5180 : Option Addr) (cap5181 : Nat) (ad5182 : Option Addr) (cap5183 : Nat) (css5184 : List (List Value)) (K5185 : Hp), St M W H [K5185, K5134, K5030, K1157, K1131, K1120, K1115, K1112, K1109, K17, K14, H] [(8, Own.list ad5180 cap5181 3 1 (encI .i64) t5177.1), (7, Own.rows ad5182 cap5183 63 5 css5184 t5177.2), (4, Own.list (some ⟨b5116, 0, none⟩) cap1196 3 1 (encI .i64) t1886), (2, cel b1158 133 [.slice ad10 r_2.words.length cap11, .int .i64 r_2.out, .int .i64 r_2.within, .map b1129, .slice ad1126 r1117.1.swaps.length cap1127, .slice ad5182 t5177.2.length cap5183, .slice ad5180 t5177.1.length cap5181, .slice (some ⟨b1156, 0, none⟩) ((List.replicate requests.length (0 : Int)).length) requests.length]), (1, Own.list (some ⟨b1156, 0, none⟩) requests.length 31 1 (encI .i64) (s5024.2.2.2.set x5113.toNat r5131))] w ∧ Has [] 106 a [(7, .pointer (some q1114)), (13, .pointer (some (⟨b1158, 0, none⟩))), (55, .slice (some ⟨b5116, 0, none⟩) e1192.length cap1196), (56, .int .i64 (e1192.length : Int)), (57, .int .i64 (s5024.1 : Int))] ∧ Rows (RRequest) 5 K5185 css5184 t5177.2) ?_ ?_
          ·refine ci rfl (fun hc5187 => ?_) (fun hc5187 => ?_)
           ·have hr5188 := if_p hc5187 hx5178
            obtain ⟨hk5198, hr5199⟩ := chk_some hr5188
            have := lenA s5024.2.2.1 ([x5119] : List Request)
            obtain ⟨hk5216, hr5217⟩ := chk_some hr5199
            have := lenA s5024.2.1 ([x5113] : List Int)
            refine drG3 19 [11, 18] [(1, 82, .pointer (some (⟨b1158, 0, none⟩)))] mixed (fun _ _ _ _ _ h => h) (by kernel_rfl) (by kernel_rfl) (by kernel_rfl) rfl (by kernel_rfl) (.cons rfl rfl rfl (fun _ => rfl) (by kernel_rfl) (by kernel_rfl) (fun _ _ => rfl) (mvY rfl) (.nil)) (DC.detA rfl rfl rfl (fun τ a w K hS hA hF => TG.pa hS hA (m1 rfl fin1)) (DC.pre (.head _) rfl (dc rfl (by kernel_rfl) tv rfl rfl (m1 rfl fin1) (dc rfl (by kernel_rfl) tv rfl rfl (nl rfl rfl fin1) (dc rfl (by kernel_rfl) tv rfl rfl (fb 5 U133 rfl rfl rfl rfl Z64 fin1) (dc rfl (by kernel_rfl) tv rfl rfl (ld G64 rfl rfl (((sO 2 rfl).drop 5).take 1) rfl fin1) (dc rfl (by kernel_rfl) tv rfl rfl (ld G64 rfl rfl (sS 6 rfl hK1116) rfl fin1) (dc rfl (by kernel_rfl) tv rfl rfl (m1 rfl fin1) (dc rfl (by kernel_rfl) tv rfl rfl (iaP U64 Z63 rfl rfl rfl (by omega) (lt_of hx5120) fin1) (dc rfl (by kernel_rfl) tv rfl rfl (ldA G63 Z63 rfl rfl (sS 11 rfl hq5125) rfl fin1) ?_))))))))))
            refine DC.und (α := Option Addr × Nat) (none, 0) (fun q => .slice q.1 1 q.2) (fun (q : Option Addr × Nat) K => Sl (RRequest) 5 K q.1 q.2 ([x5119] : List Request)) (fun τ => τ = [(8, Own.list ad5025 cap5026 3 1 (encI .i64) s5024.2.1), (7, Own.rows ad5027 cap5028 63 5 css5029 s5024.2.2.1), (4, Own.list (some ⟨b5116, 0, none⟩) cap1196 3 1 (encI .i64) t1886), (2, cel b1158 133 [.slice ad10 r_2.words.length cap11, .int .i64 r_2.out, .int .i64 r_2.within, .map b1129, .slice ad1126 r1117.1.swaps.length cap1127, .slice ad5027 s5024.2.2.1.length cap5028, .slice ad5025 s5024.2.1.length cap5026, .slice (some ⟨b1156, 0, none⟩) ((List.replicate requests.length (0 : Int)).length) requests.length]), (1, Own.list (some ⟨b1156, 0, none⟩) requests.length 31 1 (encI .i64) (s5024.2.2.2.set x5113.toNat r5131))]) rfl rfl (by kernel_rfl) tv (fun _ _ _ h x => x.mono (RRequest.mono) h) (by kernel_rfl) rfl rfl (fun τ hτ a w K hS hA hF => by subst hτ <;> exact TG.pa hS hA (bS (cs := [.int .i64 x5119.by_, .int .i64 x5119.minute, .int .i64 x5119.from_, .int .i64 x5119.cut, .slice ad5128 x5119.put_.length cap5129]) T4.E64 rfl rfl rfl rfl fun q5189 K5190 hq5191 hK5192 => by
              refine TG.pack (fun K => Sl (RRequest) 5 K (some q5189) 1 ([x5119] : List Request)) (fun H le => Sl.litR (css := [[.int .i64 x5119.by_, .int .i64 x5119.minute, .int .i64 x5119.from_, .int .i64 x5119.cut, .slice ad5128 x5119.put_.length cap5129]]) (l := ([x5119] : List Request)) ⟨⟨rfl, rfl, (RRequest.mono _ _ _ _ (le.at 12 rfl) hr5127)⟩, tv⟩ hq5191 (hK5192.mono (le.at 0 rfl)) rfl) fun K5194 hl5193 => ?_
              have := hl5193.len
              refine sk1 ?_
              exact finU (f := fun q => .slice q.1 1 q.2) (G := (fun (q : Option Addr × Nat) K => Sl (RRequest) 5 K q.1 q.2 ([x5119] : List Request))) (_, _) (fun _ _ _ h x => x.mono (RRequest.mono) h) hl5193)) ?_
            rintro ⟨ad5196, cap5197⟩
            refine DC.turn (α := Option Addr × Nat × List (List Value)) (none, 0, []) (fun q => .slice q.1 ((s5024.2.2.1 ++ ([x5119] : List Request)).length) q.2.1) (fun (q : Option Addr × Nat × List (List Value)) K => Rows (RRequest) 5 K q.2.2 (s5024.2.2.1 ++ ([x5119] : List Request))) (fun q => [(8, Own.list ad5025 cap5026 3 1 (encI .i64) s5024.2.1), (7, Own.rows q.1 q.2.1 63 5 q.2.2 (s5024.2.2.1 ++ ([x5119] : List Request))), (4, Own.list (some ⟨b5116, 0, none⟩) cap1196 3 1 (encI .i64) t1886), (2, cel b1158 133 [.slice ad10 r_2.words.length cap11, .int .i64 r_2.out, .int .i64 r_2.within, .map b1129, .slice ad1126 r1117.1.swaps.length cap1127, .slice ad5027 s5024.2.2.1.length cap5028, .slice ad5025 s5024.2.1.length cap5026, .slice (some ⟨b1156, 0, none⟩) ((List.replicate requests.length (0 : Int)).length) requests.length]), (1, Own.list (some ⟨b1156, 0, none⟩) requests.length 31 1 (encI .i64) (s5024.2.2.2.set x5113.toNat r5131))]) rfl (fun _ _ _ h x => x.mono (RRequest.mono) h) (by kernel_rfl) rfl rfl (fun a w K hS hA hF => TG.pa hS hA (TG.pack (fun K => Sl (RRequest) 5 K ad5196 cap5197 ([x5119] : List Request) ∧ Rows (RRequest) 5 K css5029 s5024.2.2.1) (fun H le => ⟨(hF.1 rfl).mono (RRequest.mono) (le.at 0 rfl), hR5031.mono (RRequest.mono) (le.at 2 rfl)⟩) fun K5202 ⟨hm5203, hR5204⟩ => apR 7 (l := s5024.2.2.1) (m := ([x5119] : List Request)) T4.E64 rfl rfl rfl rfl rfl rfl hm5203 hR5204 RRequest.one rfl hk5198 fun ad5200 cap5201 css5206 hR5205 => finV (f := fun (q : Option Addr × Nat × List (List Value)) => .slice q.1 ((s5024.2.2.1 ++ ([x5119] : List Request)).length) q.2.1) (G := (fun (q : Option Addr × Nat × List (List Value)) K => Rows (RRequest) 5 K q.2.2 (s5024.2.2.1 ++ ([x5119] : List Request)))) (σ1 := fun q => [(8, Own.list ad5025 cap5026 3 1 (encI .i64) s5024.2.1), (7, Own.rows q.1 q.2.1 63 5 q.2.2 (s5024.2.2.1 ++ ([x5119] : List Request))), (4, Own.list (some ⟨b5116, 0, none⟩) cap1196 3 1 (encI .i64) t1886), (2, cel b1158 133 [.slice ad10 r_2.words.length cap11, .int .i64 r_2.out, .int .i64 r_2.within, .map b1129, .slice ad1126 r1117.1.swaps.length cap1127, .slice ad5027 s5024.2.2.1.length cap5028, .slice ad5025 s5024.2.1.length cap5026, .slice (some ⟨b1156, 0, none⟩) ((List.replicate requests.length (0 : Int)).length) requests.length]), (1, Own.list (some ⟨b1156, 0, none⟩) requests.length 31 1 (encI .i64) (s5024.2.2.2.set x5113.toNat r5131))]) (ad5200, cap5201, css5206) (fun _ _ _ h x => x.mono (RRequest.mono) h) hR5205)) ?_
            rintro ⟨ad5200, cap5201, css5206⟩
            refine DC.det (fun τ => τ = [(8, Own.list ad5025 cap5026 3 1 (encI .i64) s5024.2.1), (7, Own.rows ad5200 cap5201 63 5 css5206 (s5024.2.2.1 ++ ([x5119] : List Request))), (4, Own.list (some ⟨b5116, 0, none⟩) cap1196 3 1 (encI .i64) t1886), (2, cel b1158 133 [.slice ad10 r_2.words.length cap11, .int .i64 r_2.out, .int .i64 r_2.within, .map b1129, .slice ad1126 r1117.1.swaps.length cap1127, .slice ad5027 s5024.2.2.1.length cap5028, .slice ad5025 s5024.2.1.length cap5026, .slice (some ⟨b1156, 0, none⟩) ((List.replicate requests.length (0 : Int)).length) requests.length]), (1, Own.list (some ⟨b1156, 0, none⟩) requests.length 31 1 (encI .i64) (s5024.2.2.2.set x5113.toNat r5131))] ∨ τ = [(8, Own.list ad5025 cap5026 3 1 (encI .i64) s5024.2.1), (7, Own.rows ad5027 cap5028 63 5 css5029 s5024.2.2.1), (4, Own.list (some ⟨b5116, 0, none⟩) cap1196 3 1 (encI .i64) t1886), (2, cel b1158 133 [.slice ad10 r_2.words.length cap11, .int .i64 r_2.out, .int .i64 r_2.within, .map b1129, .slice ad1126 r1117.1.swaps.length cap1127, .slice ad5027 s5024.2.2.1.length cap5028, .slice ad5025 s5024.2.1.length cap5026, .slice (some ⟨b1156, 0, none⟩) ((List.replicate requests.length (0 : Int)).length) requests.length]), (1, Own.list (some ⟨b1156, 0, none⟩) requests.length 31 1 (encI .i64) (s5024.2.2.2.set x5113.toNat r5131))]) rfl (.inl rfl) (by kernel_rfl) ⟨.inl (.inr (rfl)), tv⟩ rfl rfl (fun τ hτ a w K hS hA hF => by rcases hτ with rfl | rfl <;> exact TG.pa hS hA (m1 rfl fin1)) ?_
            refine DC.det (fun τ => τ = [(8, Own.list ad5025 cap5026 3 1 (encI .i64) s5024.2.1), (7, Own.rows ad5200 cap5201 63 5 css5206 (s5024.2.2.1 ++ ([x5119] : List Request))), (4, Own.list (some ⟨b5116, 0, none⟩) cap1196 3 1 (encI .i64) t1886), (2, cel b1158 133 [.slice ad10 r_2.words.length cap11, .int .i64 r_2.out, .int .i64 r_2.within, .map b1129, .slice ad1126 r1117.1.swaps.length cap1127, .slice ad5027 s5024.2.2.1.length cap5028, .slice ad5025 s5024.2.1.length cap5026, .slice (some ⟨b1156, 0, none⟩) ((List.replicate requests.length (0 : Int)).length) requests.length]), (1, Own.list (some ⟨b1156, 0, none⟩) requests.length 31 1 (encI .i64) (s5024.2.2.2.set x5113.toNat r5131))] ∨ τ = [(8, Own.list ad5025 cap5026 3 1 (encI .i64) s5024.2.1), (7, Own.rows ad5027 cap5028 63 5 css5029 s5024.2.2.1), (4, Own.list (some ⟨b5116, 0, none⟩) cap1196 3 1 (encI .i64) t1886), (2, cel b1158 133 [.slice ad10 r_2.words.length cap11, .int .i64 r_2.out, .int .i64 r_2.within, .map b1129, .slice ad1126 r1117.1.swaps.length cap1127, .slice ad5027 s5024.2.2.1.length cap5028, .slice ad5025 s5024.2.1.length cap5026, .slice (some ⟨b1156, 0, none⟩) ((List.replicate requests.length (0 : Int)).length) requests.length]), (1, Own.list (some ⟨b1156, 0, none⟩) requests.length 31 1 (encI .i64) (s5024.2.2.2.set x5113.toNat r5131))]) rfl (.inl rfl) (by kernel_rfl) ⟨.inl (.inr (rfl)), tv⟩ rfl rfl (fun τ hτ a w K hS hA hF => by rcases hτ with rfl | rfl <;> exact TG.pa hS hA (nl rfl rfl fin1)) ?_
            refine DC.det (fun τ => τ = [(8, Own.list ad5025 cap5026 3 1 (encI .i64) s5024.2.1), (7, Own.rows ad5200 cap5201 63 5 css5206 (s5024.2.2.1 ++ ([x5119] : List Request))), (4, Own.list (some ⟨b5116, 0, none⟩) cap1196 3 1 (encI .i64) t1886), (2, cel b1158 133 [.slice ad10 r_2.words.length cap11, .int .i64 r_2.out, .int .i64 r_2.within, .map b1129, .slice ad1126 r1117.1.swaps.length cap1127, .slice ad5027 s5024.2.2.1.length cap5028, .slice ad5025 s5024.2.1.length cap5026, .slice (some ⟨b1156, 0, none⟩) ((List.replicate requests.length (0 : Int)).length) requests.length]), (1, Own.list (some ⟨b1156, 0, none⟩) requests.length 31 1 (encI .i64) (s5024.2.2.2.set x5113.toNat r5131))] ∨ τ = [(8, Own.list ad5025 cap5026 3 1 (encI .i64) s5024.2.1), (7, Own.rows ad5027 cap5028 63 5 css5029 s5024.2.2.1), (4, Own.list (some ⟨b5116, 0, none⟩) cap1196 3 1 (encI .i64) t1886), (2, cel b1158 133 [.slice ad10 r_2.words.length cap11, .int .i64 r_2.out, .int .i64 r_2.within, .map b1129, .slice ad1126 r1117.1.swaps.length cap1127, .slice ad5027 s5024.2.2.1.length cap5028, .slice ad5025 s5024.2.1.length cap5026, .slice (some ⟨b1156, 0, none⟩) ((List.replicate requests.length (0 : Int)).length) requests.length]), (1, Own.list (some ⟨b1156, 0, none⟩) requests.length 31 1 (encI .i64) (s5024.2.2.2.set x5113.toNat r5131))]) rfl (.inl rfl) (by kernel_rfl) ⟨.inl (.inr (rfl)), tv⟩ rfl rfl (fun τ hτ a w K hS hA hF => by rcases hτ with rfl | rfl <;> exact TG.pa hS hA (fb 6 U133 rfl rfl rfl rfl Z86 fin1)) ?_
            refine DC.det (fun τ => τ = [(8, Own.list ad5025 cap5026 3 1 (encI .i64) s5024.2.1), (7, Own.rows ad5200 cap5201 63 5 css5206 (s5024.2.2.1 ++ ([x5119] : List Request))), (4, Own.list (some ⟨b5116, 0, none⟩) cap1196 3 1 (encI .i64) t1886), (2, cel b1158 133 [.slice ad10 r_2.words.length cap11, .int .i64 r_2.out, .int .i64 r_2.within, .map b1129, .slice ad1126 r1117.1.swaps.length cap1127, .slice ad5027 s5024.2.2.1.length cap5028, .slice ad5025 s5024.2.1.length cap5026, .slice (some ⟨b1156, 0, none⟩) ((List.replicate requests.length (0 : Int)).length) requests.length]), (1, Own.list (some ⟨b1156, 0, none⟩) requests.length 31 1 (encI .i64) (s5024.2.2.2.set x5113.toNat r5131))] ∨ τ = [(8, Own.list ad5025 cap5026 3 1 (encI .i64) s5024.2.1), (7, Own.rows ad5027 cap5028 63 5 css5029 s5024.2.2.1), (4, Own.list (some ⟨b5116, 0, none⟩) cap1196 3 1 (encI .i64) t1886), (2, cel b1158 133 [.slice ad10 r_2.words.length cap11, .int .i64 r_2.out, .int .i64 r_2.within, .map b1129, .slice ad1126 r1117.1.swaps.length cap1127, .slice ad5027 s5024.2.2.1.length cap5028, .slice ad5025 s5024.2.1.length cap5026, .slice (some ⟨b1156, 0, none⟩) ((List.replicate requests.length (0 : Int)).length) requests.length]), (1, Own.list (some ⟨b1156, 0, none⟩) requests.length 31 1 (encI .i64) (s5024.2.2.2.set x5113.toNat r5131))]) rfl (.inl rfl) (by kernel_rfl) ⟨.inl (.inr (rfl)), tv⟩ rfl rfl (fun τ hτ a w K hS hA hF => by rcases hτ with rfl | rfl <;> exact TG.pa hS hA (ld G86 rfl rfl (((sO 2 rfl).drop 6).take 1) rfl fin1)) ?_
            refine DC.det (fun τ => τ = [(8, Own.list ad5025 cap5026 3 1 (encI .i64) s5024.2.1), (7, Own.rows ad5200 cap5201 63 5 css5206 (s5024.2.2.1 ++ ([x5119] : List Request))), (4, Own.list (some ⟨b5116, 0, none⟩) cap1196 3 1 (encI .i64) t1886), (2, cel b1158 133 [.slice ad10 r_2.words.length cap11, .int .i64 r_2.out, .int .i64 r_2.within, .map b1129, .slice ad1126 r1117.1.swaps.length cap1127, .slice ad5027 s5024.2.2.1.length cap5028, .slice ad5025 s5024.2.1.length cap5026, .slice (some ⟨b1156, 0, none⟩) ((List.replicate requests.length (0 : Int)).length) requests.length]), (1, Own.list (some ⟨b1156, 0, none⟩) requests.length 31 1 (encI .i64) (s5024.2.2.2.set x5113.toNat r5131))] ∨ τ = [(8, Own.list ad5025 cap5026 3 1 (encI .i64) s5024.2.1), (7, Own.rows ad5027 cap5028 63 5 css5029 s5024.2.2.1), (4, Own.list (some ⟨b5116, 0, none⟩) cap1196 3 1 (encI .i64) t1886), (2, cel b1158 133 [.slice ad10 r_2.words.length cap11, .int .i64 r_2.out, .int .i64 r_2.within, .map b1129, .slice ad1126 r1117.1.swaps.length cap1127, .slice ad5027 s5024.2.2.1.length cap5028, .slice ad5025 s5024.2.1.length cap5026, .slice (some ⟨b1156, 0, none⟩) ((List.replicate requests.length (0 : Int)).length) requests.length]), (1, Own.list (some ⟨b1156, 0, none⟩) requests.length 31 1 (encI .i64) (s5024.2.2.2.set x5113.toNat r5131))]) rfl (.inl rfl) (by kernel_rfl) ⟨.inl (.inr (rfl)), tv⟩ rfl rfl (fun τ hτ a w K hS hA hF => by rcases hτ with rfl | rfl <;> exact TG.pa hS hA (m1 rfl fin1)) ?_
            refine DC.und (α := Option Addr × Nat) (none, 0) (fun q => .slice q.1 1 q.2) (fun (q : Option Addr × Nat) K => Sl (Flat (encI .i64)) 1 K q.1 q.2 ([x5113] : List Int)) (fun τ => τ = [(8, Own.list ad5025 cap5026 3 1 (encI .i64) s5024.2.1), (7, Own.rows ad5200 cap5201 63 5 css5206 (s5024.2.2.1 ++ ([x5119] : List Request))), (4, Own.list (some ⟨b5116, 0, none⟩) cap1196 3 1 (encI .i64) t1886), (2, cel b1158 133 [.slice ad10 r_2.words.length cap11, .int .i64 r_2.out, .int .i64 r_2.within, .map b1129, .slice ad1126 r1117.1.swaps.length cap1127, .slice ad5027 s5024.2.2.1.length cap5028, .slice ad5025 s5024.2.1.length cap5026, .slice (some ⟨b1156, 0, none⟩) ((List.replicate requests.length (0 : Int)).length) requests.length]), (1, Own.list (some ⟨b1156, 0, none⟩) requests.length 31 1 (encI .i64) (s5024.2.2.2.set x5113.toNat r5131))] ∨ τ = [(8, Own.list ad5025 cap5026 3 1 (encI .i64) s5024.2.1), (7, Own.rows ad5027 cap5028 63 5 css5029 s5024.2.2.1), (4, Own.list (some ⟨b5116, 0, none⟩) cap1196 3 1 (encI .i64) t1886), (2, cel b1158 133 [.slice ad10 r_2.words.length cap11, .int .i64 r_2.out, .int .i64 r_2.within, .map b1129, .slice ad1126 r1117.1.swaps.length cap1127, .slice ad5027 s5024.2.2.1.length cap5028, .slice ad5025 s5024.2.1.length cap5026, .slice (some ⟨b1156, 0, none⟩) ((List.replicate requests.length (0 : Int)).length) requests.length]), (1, Own.list (some ⟨b1156, 0, none⟩) requests.length 31 1 (encI .i64) (s5024.2.2.2.set x5113.toNat r5131))]) rfl (.inl rfl) (by kernel_rfl) ⟨.inl (.inr (rfl)), tv⟩ (fun _ _ _ h x => x.mono (Flat.mono _) h) (by kernel_rfl) rfl rfl (fun τ hτ a w K hS hA hF => by rcases hτ with rfl | rfl <;> exact TG.pa hS hA (bS (cs := [.int .i64 x5113]) T4.E86 rfl rfl rfl rfl fun q5208 K5209 hq5210 hK5211 => by
              have hl5212 : Sl (Flat (encI .i64)) 1 K5209 (some q5208) 1 ([x5113] : List Int) := Sl.litR (css := [[.int .i64 x5113]]) (l := ([x5113] : List Int)) ⟨⟨rfl, rfl, rfl⟩, tv⟩ hq5210 hK5211 rfl
              have := hl5212.len
              exact finU (f := fun q => .slice q.1 1 q.2) (G := (fun (q : Option Addr × Nat) K => Sl (Flat (encI .i64)) 1 K q.1 q.2 ([x5113] : List Int))) (_, _) (fun _ _ _ h x => x.mono (Flat.mono _) h) hl5212)) ?_
            rintro ⟨ad5214, cap5215⟩
            refine DC.turn (α := Option Addr × Nat) (none, 0) (fun q => .slice q.1 ((s5024.2.1 ++ ([x5113] : List Int)).length) q.2) (fun _ _ => True) (fun q => [(8, Own.list q.1 q.2 3 1 (encI .i64) (s5024.2.1 ++ ([x5113] : List Int))), (7, Own.rows ad5200 cap5201 63 5 css5206 (s5024.2.2.1 ++ ([x5119] : List Request))), (4, Own.list (some ⟨b5116, 0, none⟩) cap1196 3 1 (encI .i64) t1886), (2, cel b1158 133 [.slice ad10 r_2.words.length cap11, .int .i64 r_2.out, .int .i64 r_2.within, .map b1129, .slice ad1126 r1117.1.swaps.length cap1127, .slice ad5027 s5024.2.2.1.length cap5028, .slice ad5025 s5024.2.1.length cap5026, .slice (some ⟨b1156, 0, none⟩) ((List.replicate requests.length (0 : Int)).length) requests.length]), (1, Own.list (some ⟨b1156, 0, none⟩) requests.length 31 1 (encI .i64) (s5024.2.2.2.set x5113.toNat r5131))]) rfl (fun _ _ _ _ h => h) (by kernel_rfl) rfl rfl (fun a w K hS hA hF => TG.pa hS hA (apS 8 (enc := encI .i64) (l := s5024.2.1) (m := ([x5113] : List Int)) T4.E86 rfl rfl rfl rfl rfl rfl (hF.1 rfl) 0 rfl (fun _ => rfl) (fun _ => rfl) rfl hk5216 fun ad5218 cap5219 => finT (f := fun q => .slice q.1 ((s5024.2.1 ++ ([x5113] : List Int)).length) q.2) (G := fun _ _ => True) (σ1 := fun q => [(8, Own.list q.1 q.2 3 1 (encI .i64) (s5024.2.1 ++ ([x5113] : List Int))), (7, Own.rows ad5200 cap5201 63 5 css5206 (s5024.2.2.1 ++ ([x5119] : List Request))), (4, Own.list (some ⟨b5116, 0, none⟩) cap1196 3 1 (encI .i64) t1886), (2, cel b1158 133 [.slice ad10 r_2.words.length cap11, .int .i64 r_2.out, .int .i64 r_2.within, .map b1129, .slice ad1126 r1117.1.swaps.length cap1127, .slice ad5027 s5024.2.2.1.length cap5028, .slice ad5025 s5024.2.1.length cap5026, .slice (some ⟨b1156, 0, none⟩) ((List.replicate requests.length (0 : Int)).length) requests.length]), (1, Own.list (some ⟨b1156, 0, none⟩) requests.length 31 1 (encI .i64) (s5024.2.2.2.set x5113.toNat r5131))]) (_, _) tv)) ?_
            rintro ⟨ad5218, cap5219⟩
            refine DC.nil fun K5220 hF => ?_
            obtain ⟨_, hu5213, hu5207, hu5195, _⟩ := hF
            have := hu5195.len
            have := hu5213.len
            refine nl rfl rfl (fb 5 U133 rfl rfl rfl rfl Z64 (sto 2 (cs := [.slice ad5200 ((s5024.2.2.1 ++ ([x5119] : List Request)).length) cap5201]) Z64 rfl rfl rfl rfl rfl rfl rfl (nl rfl rfl (fb 6 U133 rfl rfl rfl rfl Z86 (sto 2 (cs := [.slice ad5218 ((s5024.2.1 ++ ([x5113] : List Int)).length) cap5219]) Z86 rfl rfl rfl rfl rfl rfl rfl (on ?_))))))
            cases hr5217
            intro a w hS hA
            exact ⟨ad5218, cap5219, ad5200, cap5201, css5206, K5220, hS, hA.cut ⟨rfl, rfl, rfl, rfl, rfl, tv⟩, hu5207⟩
           ·have hr5221 := if_n hc5187 hx5178
            refine sk ?_
            cases hr5221
            intro a w hS hA
            exact ⟨ad5025, cap5026, ad5027, cap5028, css5029, K5030, hS.selH [1, 0, 1, 2, 3, 4, 5, 6, 7, 8, 9, 10] rfl, hA.cut ⟨rfl, rfl, rfl, rfl, rfl, tv⟩, hR5031⟩
          ·rintro a w ⟨ad5180, cap5181, ad5182, cap5183, css5184, K5185, hS, hA, hR5186⟩
           refine TG.ap ?_ hS hA
           refine rg (adI rfl rfl rfl (by omega) (m1 rfl (on ?_)))
           cases hr5179
           intro a w hS hA
           exact ⟨_, hz5034, ad5180, cap5181, ad5182, cap5183, css5184, K5185, hS.selH [0, 3, 4, 5, 6, 7, 8, 9, 10, 11] rfl, hA.cut ⟨rfl, rfl, rfl, rfl, rfl, tv⟩, hR5186, hln5138⟩
         ·have hr5222 := if_n hc5039 hr5033
          refine xt rfl ?_
          cases hr5222
          obtain rfl := Fin.out hz5034
          intro a w hS hA
          exact ⟨ad5025, cap5026, ad5027, cap5028, css5029, K5030, hS, hA.cut ⟨rfl, tv⟩, hR5031, hln5032⟩
       ·rintro a w ⟨ad5016, cap5017, ad5018, cap5019, css5020, K5021, hS, hA, hR5022, hln5023⟩
        refine TG.ap ?_ hS hA
        refine sq (rg (m1 rfl (a1 rfl (a1 rfl (on (rt_ (TG.del 4 (TG.as 2 (z := cel b1158 133 [.slice ad10 r_2.words.length cap11, .int .i64 r_2.out, .int .i64 r_2.within, .map b1129, .slice ad1126 r1117.1.swaps.length cap1127, .slice ad5018 e5013.2.1.length cap5019, .slice ad5016 e5013.1.length cap5017, .slice (some ⟨b1156, 0, none⟩) e5013.2.2.length requests.length]) rfl (by rw [hln5023]) ?_))))))))
        cases hr5015
        intro a w hS hA
        refine ret2 hA rfl rfl rfl ?_
        exact ⟨_, rfl, .inr (⟨_, rfl, b1158, ad5016, cap5017, ad5018, cap5019, css5020, K5021, ad10, cap11, H, .map b1129, K1120, ad1126, cap1127, K1120, (some ⟨b1156, 0, none⟩), requests.length, rfl, hS.selH [0, 9, 3, 3, 7, 8, 9] rfl, hR5022, hl12, hm1125, hl1128⟩)⟩
 ·rintro a w v hA (⟨t1085, rfl, rfl, hS⟩ | ⟨t1086, rfl, b1087, ad1088, cap1089, ad1090, cap1091, css1092, K1093, ad1095, cap1096, K1097, mp1099, K1100, ad1102, cap1103, K1104, ad1106, cap1107, rfl, hS, hR1094, hl1098, hm1101, hl1105⟩)
  ·refine putK rfl hA hS (m1 rfl (ex rfl rfl rfl (ex rfl rfl rfl (a1 rfl (a1 rfl (on (sq (sq (rg (m1 rfl (neI rfl rfl rfl ?_)))))))))))
   refine on ?_
   refine ci rfl (fun hc5226 => ?_) (fun hc5226 => ?_)
   ·have hr5227 := if_p hc5226 hr1084
    refine sq (rg (m1 rfl (a1 rfl (a1 rfl (on (rt_ ?_))))))
    cases hr5227
    intro a w hS hA
    refine ret2 hA rfl rfl rfl ?_
    exact ⟨⟨_, _, rfl, (Sl.nil _ _ _ _ _ (by decide))⟩, hS.ext⟩
   ·have hr5228 := if_n hc5226 hr1084
    refine sk (sq (rg (m1 rfl ?_)))
    cases hr5228
  ·have := hl1098.len
   have := hl1105.len
   refine putK rfl hA hS (m1 rfl (ex rfl rfl rfl (ex rfl rfl rfl (a1 rfl (a1 rfl (on (sq (sq (rg (m1 rfl (neI rfl rfl rfl ?_)))))))))))
   refine on (cF rfl ((rfl : decide ((0 : Int) ≠ (0 : Int)) = false)) (sk (sq (rg (m1 rfl (nl rfl rfl (fb 7 U133 rfl rfl rfl rfl Z59 (ld G59 rfl rfl ((sO 2 rfl).drop 7) rfl (a1 rfl (a1 rfl (on ?_)))))))))))
   refine rt_ ?_
   cases hr1084
   intro a w hS hA
   refine ret2 hA rfl rfl rfl ?_
   exact ⟨⟨_, _, rfl, (hS.listOut 1 rfl (fun _ => rfl))⟩, hS.ext⟩

theorem w41 {M : Prop} {W : World} {H : Hp} (hH : H.le (hp W)) {ad_a_0 : Option Addr} {cap_a_0 : Nat} {a_0 : List Mark} (h_a_0 : Sl (Flat encMark) 2 H ad_a_0 cap_a_0 a_0) {ad_b_1 : Option Addr} {cap_b_1 : Nat} {b_1 : List Mark} (h_b_1 : Sl (Flat encMark) 2 H ad_b_1 cap_b_1 b_1) {r : Bool} (hr : m41 a_0 b_1 = some r) : Calls Tryz.prog 41 [.slice ad_a_0 a_0.length cap_a_0, .slice ad_b_1 b_1.length cap_b_1].toArray W (RetS M W (.bool r)) := by
 have := h_a_0.len
 have := h_b_1.len
 unfold m41 at hr
 refine enterG (M := M) Tryz.func41 rfl Tryz.ntmps41 rfl hH ?_
 refine sq (rg (a1 rfl (on (sq (sq (rg (m1 rfl (lnL U49 rfl rfl (m1 rfl (lnL U44 rfl rfl (neI rfl rfl rfl ?_)))))))))))
 refine on ?_
 refine ci rfl (fun hc4 => ?_) (fun hc4 => ?_)
 ·have hr5 := if_p hc4 hr
  refine sq (rg (a1 rfl (on (rt_ ?_))))
  cases hr5
  intro a w hS hA
  refine ret1 hA rfl rfl ?_
  exact ⟨rfl, hS.ext⟩
 ·have hr6 := if_n hc4 hr
  refine sk (sq (sq (rg (a1 rfl (on ?_)))))
  obtain ⟨e36, hl37, hr38⟩ := bd_some hr6
  refine jn (fun a w => ∃ t39, e36 = .inl t39 ∧ St M W H [H] [] w ∧ Has [] 41 a []) ?_ ?_
  ·refine bk ?_
   refine lp hl37 (fun s40 a w => St M W H [H] [] w ∧ Has [] 41 a [(0, .slice ad_a_0 a_0.length cap_a_0), (1, .slice ad_b_1 b_1.length cap_b_1), (5, .int .i64 (s40 : Int))]) ?_ ?_
   ·exact cu ⟨rfl, rfl, rfl, tv⟩
   ·rintro j s40 y43 hr41 hz42 a w ⟨hS, hA⟩
    refine TG.ap ?_ hS hA
    unfold m41_1 at hr41
    refine sq (sq (rg (m1 rfl (m1 rfl (lnL U49 rfl rfl (ltI rfl rfl rfl (on ?_)))))))
    refine ci rfl (fun hc47 => ?_) (fun hc47 => ?_)
    ·have hr48 := if_p hc47 hr41
     refine sk (sq (bk (sq ?_)))
     obtain ⟨t95, hx96, hr97⟩ := bd_some hr48
     refine jn (fun a w => St M W H [H] [] w ∧ Has [] 41 a [(0, .slice ad_a_0 a_0.length cap_a_0), (1, .slice ad_b_1 b_1.length cap_b_1), (5, .int .i64 (s40 : Int)), (40, .bool t95)]) ?_ ?_
     ·obtain ⟨x98, hx99, hr100⟩ := bd_some hx96
      obtain ⟨p101, rfl⟩ := h_a_0.adr hx99
      obtain ⟨cs102, hcs103, hq104, hr105⟩ := h_a_0.at hx99
      obtain rfl := hr105
      obtain ⟨x106, hx107, hr108⟩ := bd_some hr100
      obtain ⟨p109, rfl⟩ := h_b_1.adr hx107
      obtain ⟨cs110, hcs111, hq112, hr113⟩ := h_b_1.at hx107
      obtain rfl := hr113
      by_cases hb114 : x98.kind ≠ x106.kind
      ·have hr115 := if_p hb114 hr108
       refine drG 22 mixed (by kernel_rfl) rfl (dt rfl (m1 rfl fin1) (dt rfl (m1 rfl fin1) (dt rfl (iaP U49 Z79 rfl rfl rfl rfl (lt_of hx99) fin1) (dt rfl (fb 0 U79 rfl rfl rfl rfl Z5 fin1) (dt rfl (ld G5 rfl rfl ((sS 1 rfl hq104).take 1) rfl fin1) (dt rfl (m1 rfl fin1) (dt rfl (m1 rfl fin1) (dt rfl (iaP U44 Z113 rfl rfl rfl rfl (lt_of hx107) fin1) (dt rfl (fb 0 U113 rfl rfl rfl rfl Z5 fin1) (dt rfl (ld G5 rfl rfl ((sS 1 rfl hq112).take 1) rfl fin1) (dt rfl (neI rfl rfl rfl fin1) ?_)))))))))))
       refine dt rfl (m1 rfl fin1) (dt rfl (gf' hb114 rfl fin1) (dt rfl (gf' hb114 rfl fin1) (dt rfl (gf' hb114 rfl fin1) (dt rfl (gf' hb114 rfl fin1) (dt rfl (gf' hb114 rfl fin1) (dt rfl (gf' hb114 rfl fin1) (dt rfl (gf' hb114 rfl fin1) (dt rfl (gf' hb114 rfl fin1) (dt rfl (gf' hb114 rfl fin1) (dt rfl (gf' hb114 rfl fin1) (DF.nil fun K116 hF => ?_)))))))))))
       refine gf' hb114 rfl (pt hb114 rfl rfl (on ?_))
       cases hr115
       intro a w hS hA
       exact ⟨hS.selH [1] rfl, hA.cut ⟨rfl, rfl, rfl, rfl, tv⟩⟩
      ·have hr117 := if_n hb114 hr108
       refine drG 22 mixed (by kernel_rfl) rfl (dt rfl (m1 rfl fin1) (dt rfl (m1 rfl fin1) (dt rfl (iaP U49 Z79 rfl rfl rfl rfl (lt_of hx99) fin1) (dt rfl (fb 0 U79 rfl rfl rfl rfl Z5 fin1) (dt rfl (ld G5 rfl rfl ((sS 1 rfl hq104).take 1) rfl fin1) (dt rfl (m1 rfl fin1) (dt rfl (m1 rfl fin1) (dt rfl (iaP U44 Z113 rfl rfl rfl rfl (lt_of hx107) fin1) (dt rfl (fb 0 U113 rfl rfl rfl rfl Z5 fin1) (dt rfl (ld G5 rfl rfl ((sS 1 rfl hq112).take 1) rfl fin1) (dt rfl (neI rfl rfl rfl fin1) ?_)))))))))))
       refine dt rfl (m1 rfl fin1) (dt rfl (gt' hb114 rfl (m1 rfl fin1)) (dt rfl (gt' hb114 rfl (m1 rfl fin1)) (dt rfl (gt' hb114 rfl (iaP U49 Z79 rfl rfl rfl rfl (lt_of hx99) fin1)) (dt rfl (gt' hb114 rfl (fb 1 U79 rfl rfl rfl rfl Z3 fin1)) (dt rfl (gt' hb114 rfl (ld G3 rfl rfl ((sS 1 rfl hq104).drop 1) rfl fin1)) (dt rfl (gt' hb114 rfl (m1 rfl fin1)) (dt rfl (gt' hb114 rfl (m1 rfl fin1)) (dt rfl (gt' hb114 rfl (iaP U44 Z113 rfl rfl rfl rfl (lt_of hx107) fin1)) (dt rfl (gt' hb114 rfl (fb 1 U113 rfl rfl rfl rfl Z3 fin1)) (dt rfl (gt' hb114 rfl (ld G3 rfl rfl ((sS 1 rfl hq112).drop 1) rfl fin1)) (DF.nil fun K118 hF => ?_)))))))))))
       refine gt' hb114 rfl (neI rfl rfl rfl (pf hb114 rfl rfl (on ?_)))
       cases hr117
       intro a w hS hA
       exact ⟨hS.selH [1] rfl, hA.cut ⟨rfl, rfl, rfl, rfl, tv⟩⟩
     ·rintro a w ⟨hS, hA⟩
      refine TG.ap ?_ hS hA
      refine cb rfl (fun hc122 => ?_) (fun hc122 => ?_)
      ·have hr123 := if_p hc122 hr97
       refine sq (rg (a1 rfl (on (rt_ ?_))))
       cases hr123
       obtain rfl := Fin.out hz42
       cases hr38
       intro a w hS hA
       refine ret1 hA rfl rfl ?_
       exact ⟨rfl, hS.ext⟩
      ·have hr124 := if_f hc122 hr97
       refine sk (rg (m1 rfl (adI rfl rfl rfl (by omega) (a1 rfl (on ?_)))))
       cases hr124
       intro a w hS hA
       exact ⟨_, hz42, hS, hA.cut ⟨rfl, rfl, rfl, tv⟩⟩
    ·have hr125 := if_n hc47 hr41
     refine xt rfl ?_
     cases hr125
     obtain rfl := Fin.out hz42
     intro a w hS hA
     exact ⟨_, rfl, hS, hA.cut tv⟩
  ·rintro a w ⟨t39, rfl, hS, hA⟩
   refine TG.ap ?_ hS hA
   refine sq (rg (a1 rfl (on (rt_ ?_))))
   cases hr38
   intro a w hS hA
   refine ret1 hA rfl rfl ?_
   exact ⟨rfl, hS.ext⟩

theorem w50 {M : Prop} {W : World} {H : Hp} (hH : H.le (hp W)) {ad_a_0 : Option Addr} {cap_a_0 : Nat} {a_0 : List Int} (h_a_0 : Sl (Flat (encI .i64)) 1 H ad_a_0 cap_a_0 a_0) {ad_b_1 : Option Addr} {cap_b_1 : Nat} {b_1 : List Int} (h_b_1 : Sl (Flat (encI .i64)) 1 H ad_b_1 cap_b_1 b_1) {r : Bool} (hr : m50 a_0 b_1 = some r) : Calls Tryz.prog 50 [.slice ad_a_0 a_0.length cap_a_0, .slice ad_b_1 b_1.length cap_b_1].toArray W (RetS M W (.bool r)) := by
 have := h_a_0.len
 have := h_b_1.len
 unfold m50 at hr
 refine enterG (M := M) Tryz.func50 rfl Tryz.ntmps50 rfl hH ?_
 refine sq (rg (a1 rfl (on (sq (sq (rg (m1 rfl (lnL U59 rfl rfl (m1 rfl (lnL U59 rfl rfl (neI rfl rfl rfl ?_)))))))))))
 refine on ?_
 refine ci rfl (fun hc4 => ?_) (fun hc4 => ?_)
 ·have hr5 := if_p hc4 hr
  refine sq (rg (a1 rfl (on (rt_ ?_))))
  cases hr5
  intro a w hS hA
  refine ret1 hA rfl rfl ?_
  exact ⟨rfl, hS.ext⟩
 ·have hr6 := if_n hc4 hr
  refine sk (sq (sq (rg (a1 rfl (on ?_)))))
  obtain ⟨e31, hl32, hr33⟩ := bd_some hr6
  refine jn (fun a w => ∃ t34, e31 = .inl t34 ∧ St M W H [H] [] w ∧ Has [] 26 a []) ?_ ?_
  ·refine bk ?_
   refine lp hl32 (fun s35 a w => St M W H [H] [] w ∧ Has [] 26 a [(0, .slice ad_a_0 a_0.length cap_a_0), (1, .slice ad_b_1 b_1.length cap_b_1), (5, .int .i64 (s35 : Int))]) ?_ ?_
   ·exact cu ⟨rfl, rfl, rfl, tv⟩
   ·rintro j s35 y38 hr36 hz37 a w ⟨hS, hA⟩
    refine TG.ap ?_ hS hA
    unfold m50_1 at hr36
    refine sq (sq (rg (m1 rfl (m1 rfl (lnL U59 rfl rfl (ltI rfl rfl rfl (on ?_)))))))
    refine ci rfl (fun hc42 => ?_) (fun hc42 => ?_)
    ·have hr43 := if_p hc42 hr36
     refine sk (sq (bk (sq ?_)))
     obtain ⟨x64, hx65, hr66⟩ := bd_some hr43
     obtain ⟨p67, rfl⟩ := h_a_0.adr hx65
     obtain ⟨cs68, hcs69, hq70, hr71⟩ := h_a_0.at hx65
     obtain rfl := hr71
     obtain ⟨x72, hx73, hr74⟩ := bd_some hr66
     obtain ⟨p75, rfl⟩ := h_b_1.adr hx73
     obtain ⟨cs76, hcs77, hq78, hr79⟩ := h_b_1.at hx73
     obtain rfl := hr79
     refine drG 8 mixed (by kernel_rfl) rfl (dt rfl (m1 rfl fin1) (dt rfl (m1 rfl fin1) (dt rfl (iaP U59 Z31 rfl rfl rfl rfl (lt_of hx65) fin1) (dt rfl (ld G31 rfl rfl (sS 1 rfl hq70) rfl fin1) (dt rfl (m1 rfl fin1) (dt rfl (m1 rfl fin1) (dt rfl (iaP U59 Z31 rfl rfl rfl rfl (lt_of hx73) fin1) (dt rfl (ld G31 rfl rfl (sS 1 rfl hq78) rfl fin1) (DF.nil fun K80 hF => (neI rfl rfl rfl (on ?_)))))))))))
     refine ci rfl (fun hc84 => ?_) (fun hc84 => ?_)
     ·have hr85 := if_p hc84 hr74
      refine sq (rg (a1 rfl (on (rt_ ?_))))
      cases hr85
      obtain rfl := Fin.out hz37
      cases hr33
      intro a w hS hA
      refine ret1 hA rfl rfl ?_
      exact ⟨rfl, hS.ext⟩
     ·have hr86 := if_n hc84 hr74
      refine sk (rg (m1 rfl (adI rfl rfl rfl (by omega) (a1 rfl (on ?_)))))
      cases hr86
      intro a w hS hA
      exact ⟨_, hz37, hS.selH [1] rfl, hA.cut ⟨rfl, rfl, rfl, tv⟩⟩
    ·have hr87 := if_n hc42 hr36
     refine xt rfl ?_
     cases hr87
     obtain rfl := Fin.out hz37
     intro a w hS hA
     exact ⟨_, rfl, hS, hA.cut tv⟩
  ·rintro a w ⟨t34, rfl, hS, hA⟩
   refine TG.ap ?_ hS hA
   refine sq (rg (a1 rfl (on (rt_ ?_))))
   cases hr33
   intro a w hS hA
   refine ret1 hA rfl rfl ?_
   exact ⟨rfl, hS.ext⟩

theorem w17 {M : Prop} {W : World} {H : Hp} (hH : H.le (hp W)) (hg : Gv M H)  {r : Bool} (hr : m17 = some r) : Calls Tryz.prog 17 [].toArray W (RetS M W (.bool r)) := by
 unfold m17 at hr
 refine enterG (M := M) Tryz.func17 rfl Tryz.ntmps17 rfl hH ?_
 refine sq (rg (a1 rfl (on (sq (rg ?_)))))
 obtain ⟨r1, hx2, hr3⟩ := bd_some hr
 refine clK C48 rfl rfl rfl rfl (fun w H hH le => w48 hH  hx2) ?_
 rintro v_ K4 ⟨cs5, ad7, cap8, rfl, hr6, hl9⟩
 have hr10 := hr6
 obtain ⟨ad11, cap12, ad14, cap15, ad17, cap18, rfl, hl13, hl16, hl19⟩ := hr6
 have := hl13.len
 have := hl16.len
 have := hl19.len
 have := hl9.len
 refine m1 rfl (ex rfl rfl rfl (ex rfl rfl rfl (va (cs := [.slice ad11 r1.1.numbers.length cap12, .slice ad14 r1.1.names.length cap15, .slice ad17 r1.1.nots.length cap18]) Tryz.zeroValue36 Z36 rfl rfl rfl rfl rfl rfl rfl rfl fun q20 K21 hK22 => (a1 rfl (on (sq (rg (ldA G36 Z36 rfl rfl (sS 0 rfl hK22) rfl (bS (cs := [.string (bs [83, 109, 121, 116, 104]), .string (bs [100, 105, 100]), .string (bs [110, 111, 116]), .string (bs [112, 97, 121]), .string (bs [116, 101, 110]), .string (bs [48, 48, 55]), .string (bs [56])]) T4.E24 rfl rfl rfl rfl fun q23 K24 hq25 hK26 => ?_)))))))))
 have hl27 : Sl (Flat encS) 1 K24 (some q23) 7 ([[83, 109, 121, 116, 104], [100, 105, 100], [110, 111, 116], [112, 97, 121], [116, 101, 110], [48, 48, 55], [56]] : List Bytes) := Sl.litR (css := [[.string (bs [83, 109, 121, 116, 104])], [.string (bs [100, 105, 100])], [.string (bs [110, 111, 116])], [.string (bs [112, 97, 121])], [.string (bs [116, 101, 110])], [.string (bs [48, 48, 55])], [.string (bs [56])]]) (l := ([[83, 109, 121, 116, 104], [100, 105, 100], [110, 111, 116], [112, 97, 121], [116, 101, 110], [48, 48, 55], [56]] : List Bytes)) ⟨⟨rfl, rfl, rfl⟩, ⟨rfl, rfl, rfl⟩, ⟨rfl, rfl, rfl⟩, ⟨rfl, rfl, rfl⟩, ⟨rfl, rfl, rfl⟩, ⟨rfl, rfl, rfl⟩, ⟨rfl, rfl, rfl⟩, tv⟩ hq25 hK26 rfl
 have := hl27.len
 obtain ⟨r28, hx29, hr30⟩ := bd_some hr3
 refine clK C26 rfl rfl rfl rfl (fun w H hH le => w26 hH (hg.mono (le.at 3 rfl)) r1.1 (RLexicon.mono _ _ _ _ (le.at 2 rfl) hr10) (hl27.mono (Flat.mono _) (le.at 0 rfl)) hx29) ?_
 rintro v_ K31 ⟨ad32, cap33, rfl, hl34⟩
 have := hl34.len
 refine m1 rfl (ex rfl rfl rfl (ex rfl rfl rfl (a1 rfl (a1 rfl (on (sq (rg (ldA G36 Z36 rfl rfl (sS 2 rfl hK22) rfl (m1 rfl (bS (cs := [.string (bs [110, 111, 116]), .string (bs [116, 101, 110])]) T4.E24 rfl rfl rfl rfl fun q35 K36 hq37 hK38 => ?_))))))))))
 have hl39 : Sl (Flat encS) 1 K36 (some q35) 2 ([[110, 111, 116], [116, 101, 110]] : List Bytes) := Sl.litR (css := [[.string (bs [110, 111, 116])], [.string (bs [116, 101, 110])]]) (l := ([[110, 111, 116], [116, 101, 110]] : List Bytes)) ⟨⟨rfl, rfl, rfl⟩, ⟨rfl, rfl, rfl⟩, tv⟩ hq37 hK38 rfl
 have := hl39.len
 refine bS (cs := [.string (bs [110, 101, 118, 101, 114]), .string (bs [49, 50])]) T4.E24 rfl rfl rfl rfl fun q40 K41 hq42 hK43 => ?_
 have hl44 : Sl (Flat encS) 1 K41 (some q40) 2 ([[110, 101, 118, 101, 114], [49, 50]] : List Bytes) := Sl.litR (css := [[.string (bs [110, 101, 118, 101, 114])], [.string (bs [49, 50])]]) (l := ([[110, 101, 118, 101, 114], [49, 50]] : List Bytes)) ⟨⟨rfl, rfl, rfl⟩, ⟨rfl, rfl, rfl⟩, tv⟩ hq42 hK43 rfl
 have := hl44.len
 obtain ⟨r45, hx46, hr47⟩ := bd_some hr30
 refine clS C18 rfl rfl rfl rfl (fun w H hH le => w18 hH (hg.mono (le.at 6 rfl)) r1.1 (RLexicon.mono _ _ _ _ (le.at 5 rfl) hr10) (hl9.mono (Flat.mono _) (le.at 5 rfl)) (hl39.mono (Flat.mono _) (le.at 1 rfl)) (hl44.mono (Flat.mono _) (le.at 0 rfl)) hx46) (m1 rfl (ex rfl rfl rfl (ex rfl rfl rfl (a1 rfl (a1 rfl (on (sq (rg ?_))))))))
 obtain ⟨r48, hx49, hr50⟩ := bd_some hr47
 refine clK C49 rfl rfl rfl rfl (fun w H hH le => w49 hH  hx49) ?_
 rintro v_ K51 ⟨cs52, ad54, cap55, rfl, hr53, hl56⟩
 have hr57 := hr53
 obtain ⟨ad58, cap59, rfl, hl60⟩ := hr53
 have := hl60.len
 have := hl56.len
 refine m1 rfl (ex rfl rfl rfl (ex rfl rfl rfl (va (cs := [.slice ad58 r48.1.words.length cap59, .int .i64 r48.1.out, .int .i64 r48.1.within]) Tryz.zeroValue56 Z56 rfl rfl rfl rfl rfl rfl rfl rfl fun q61 K62 hK63 => (a1 rfl (on (sq (rg (ldA G36 Z36 rfl rfl (sS 6 rfl hK22) rfl (m1 rfl (ldA G56 Z56 rfl rfl (sS 0 rfl hK63) rfl (m1 rfl ?_)))))))))))
 obtain ⟨r64, hx65, hr66⟩ := bd_some hr50
 refine clK C29 rfl rfl rfl rfl (fun w H hH le => w29 hH (hg.mono (le.at 8 rfl)) r1.1 (RLexicon.mono _ _ _ _ (le.at 7 rfl) hr10) (hl9.mono (Flat.mono _) (le.at 7 rfl)) r48.1 (RReport.mono _ _ _ _ (le.at 1 rfl) hr57) (hl56.mono (RRequest.mono) (le.at 1 rfl)) hx65) ?_
 rintro v_ K67 ⟨ad68, cap69, rfl, hl70⟩
 have := hl70.len
 refine m1 rfl (ex rfl rfl rfl (ex rfl rfl rfl (a1 rfl (a1 rfl (on (sq ?_))))))
 obtain ⟨t102, hx103, hr104⟩ := bd_some hr66
 refine jn (fun a w => St M W H [K67, K62, K51, K41, K36, K31, K24, K21, K4, H] [] w ∧ Has [] 69 a [(0, .bool t102)]) ?_ ?_
 ·refine rg (m1 rfl (eqI rfl rfl rfl (m1 rfl ?_)))
  by_cases hb105 : r28.2 = 0
  ·have hr106 := if_p hb105 hx103
   refine gt hb105 rfl (m1 rfl (gt hb105 rfl (bu (cs := [.int .u8 2, .int .i64 0]) T4.B113 rfl rfl rfl (gt hb105 rfl (bu (cs := [.int .u8 3, .int .i64 0]) T4.B113 rfl rfl rfl (gt hb105 rfl (bu (cs := [.int .u8 1, .int .i64 10]) T4.B113 rfl rfl rfl (gt hb105 rfl (bu (cs := [.int .u8 1, .int .i64 8]) T4.B113 rfl rfl rfl (gt hb105 rfl (bS (cs := [.int .u8 2, .int .i64 0, .int .u8 3, .int .i64 0, .int .u8 1, .int .i64 10, .int .u8 1, .int .i64 8]) T4.E44 rfl rfl rfl rfl fun q107 K108 hq109 hK110 => ?_)))))))))))
   have hl111 : Sl (Flat encMark) 2 K108 (some q107) 4 ([(⟨2, 0⟩ : Mark), (⟨3, 0⟩ : Mark), (⟨1, 10⟩ : Mark), (⟨1, 8⟩ : Mark)] : List Mark) := Sl.litR (css := [[.int .u8 2, .int .i64 0], [.int .u8 3, .int .i64 0], [.int .u8 1, .int .i64 10], [.int .u8 1, .int .i64 8]]) (l := ([(⟨2, 0⟩ : Mark), (⟨3, 0⟩ : Mark), (⟨1, 10⟩ : Mark), (⟨1, 8⟩ : Mark)] : List Mark)) ⟨⟨rfl, rfl, rfl⟩, ⟨rfl, rfl, rfl⟩, ⟨rfl, rfl, rfl⟩, ⟨rfl, rfl, rfl⟩, tv⟩ hq109 hK110 rfl
   have := hl111.len
   refine gt hb105 rfl ?_
   obtain ⟨r112, hx113, hr114⟩ := bd_some hr106
   refine clS C41 rfl rfl rfl rfl (fun w H hH le => w41 hH (hl34.mono (Flat.mono _) (le.at 6 rfl)) (hl111.mono (Flat.mono _) (le.at 0 rfl)) hx113) (pt hb105 rfl rfl (m1 rfl ?_))
   rcases Bool.eq_false_or_eq_true (r112) with hb115 | hb115
   ·have hr116 := if_p hb115 hr114
    refine gN rfl rfl (hb115) (m1 rfl (gN rfl rfl (hb115) (eqI rfl rfl rfl (pT rfl rfl (hb115) rfl (m1 rfl ?_)))))
    by_cases hb117 : r45.2 = 0
    ·have hr118 := if_p hb117 hr116
     refine gt hb117 rfl (m1 rfl (gt hb117 rfl (eqI rfl rfl rfl (pt hb117 rfl rfl (m1 rfl ?_)))))
     by_cases hb119 : r45.1 = 0
     ·have hr120 := if_p hb119 hr118
      refine gt hb119 rfl (m1 rfl (gt hb119 rfl (eqI rfl rfl rfl (pt hb119 rfl rfl (m1 rfl ?_)))))
      by_cases hb121 : r64.2 = 0
      ·have hr122 := if_p hb121 hr120
       refine gt hb121 rfl (m1 rfl (gt hb121 rfl (bS (cs := [.int .i64 0, .int .i64 0, .int .i64 5, .int .i64 11, .int .i64 9]) T4.E59 rfl rfl rfl rfl fun q123 K124 hq125 hK126 => ?_)))
       have hl127 : Sl (Flat (encI .i64)) 1 K124 (some q123) 5 ([0, 0, 5, 11, 9] : List Int) := Sl.litR (css := [[.int .i64 0], [.int .i64 0], [.int .i64 5], [.int .i64 11], [.int .i64 9]]) (l := ([0, 0, 5, 11, 9] : List Int)) ⟨⟨rfl, rfl, rfl⟩, ⟨rfl, rfl, rfl⟩, ⟨rfl, rfl, rfl⟩, ⟨rfl, rfl, rfl⟩, ⟨rfl, rfl, rfl⟩, tv⟩ hq125 hK126 rfl
       have := hl127.len
       refine gt hb121 rfl ?_
       obtain ⟨r128, hx129, hr130⟩ := bd_some hr122
       refine clS C50 rfl rfl rfl rfl (fun w H hH le => w50 hH (hl70.mono (Flat.mono _) (le.at 2 rfl)) (hl127.mono (Flat.mono _) (le.at 0 rfl)) hx129) (pt hb121 rfl rfl (a1 rfl (on ?_)))
       cases hr130
       intro a w hS hA
       exact ⟨hS.selH [2, 3, 4, 5, 6, 7, 8, 9, 10, 11] rfl, hA.cut ⟨rfl, tv⟩⟩
      ·have hr131 := if_n hb121 hr120
       refine gf hb121 rfl (gf hb121 rfl (gf hb121 rfl (pf hb121 rfl rfl (a1 rfl (on ?_)))))
       cases hr131
       intro a w hS hA
       exact ⟨hS.selH [1, 2, 3, 4, 5, 6, 7, 8, 9, 10] rfl, hA.cut ⟨rfl, tv⟩⟩
     ·have hr132 := if_n hb119 hr118
      refine gf hb119 rfl (gf hb119 rfl (pf hb119 rfl rfl (m1 rfl (gF rfl rfl rfl rfl (gF rfl rfl rfl rfl (gF rfl rfl rfl rfl (pF rfl rfl rfl rfl (a1 rfl (on ?_)))))))))
      cases hr132
      intro a w hS hA
      exact ⟨hS.selH [1, 2, 3, 4, 5, 6, 7, 8, 9, 10] rfl, hA.cut ⟨rfl, tv⟩⟩
    ·have hr133 := if_n hb117 hr116
     refine gf hb117 rfl (gf hb117 rfl (pf hb117 rfl rfl (m1 rfl (gF rfl rfl rfl rfl (gF rfl rfl rfl rfl (pF rfl rfl rfl rfl (m1 rfl (gF rfl rfl rfl rfl (gF rfl rfl rfl rfl (gF rfl rfl rfl rfl (pF rfl rfl rfl rfl ?_)))))))))))
     refine a1 rfl (on ?_)
     cases hr133
     intro a w hS hA
     exact ⟨hS.selH [1, 2, 3, 4, 5, 6, 7, 8, 9, 10] rfl, hA.cut ⟨rfl, tv⟩⟩
   ·have hr134 := if_f hb115 hr114
    refine gF rfl rfl (hb115) rfl (gF rfl rfl (hb115) rfl (pF rfl rfl (hb115) rfl (m1 rfl (gF rfl rfl rfl rfl (gF rfl rfl rfl rfl (pF rfl rfl rfl rfl (m1 rfl (gF rfl rfl rfl rfl (gF rfl rfl rfl rfl (pF rfl rfl rfl rfl (m1 rfl ?_)))))))))))
    refine gF rfl rfl rfl rfl (gF rfl rfl rfl rfl (gF rfl rfl rfl rfl (pF rfl rfl rfl rfl (a1 rfl (on ?_)))))
    cases hr134
    intro a w hS hA
    exact ⟨hS.selH [1, 2, 3, 4, 5, 6, 7, 8, 9, 10] rfl, hA.cut ⟨rfl, tv⟩⟩
  ·have hr135 := if_n hb105 hx103
   refine gf hb105 rfl (gf hb105 rfl (gf hb105 rfl (gf hb105 rfl (gf hb105 rfl (gf hb105 rfl (gf hb105 rfl (pf hb105 rfl rfl (m1 rfl (gF rfl rfl rfl rfl (gF rfl rfl rfl rfl (pF rfl rfl rfl rfl ?_)))))))))))
   refine m1 rfl (gF rfl rfl rfl rfl (gF rfl rfl rfl rfl (pF rfl rfl rfl rfl (m1 rfl (gF rfl rfl rfl rfl (gF rfl rfl rfl rfl (pF rfl rfl rfl rfl (m1 rfl (gF rfl rfl rfl rfl (gF rfl rfl rfl rfl (gF rfl rfl rfl rfl ?_)))))))))))
   refine pF rfl rfl rfl rfl (a1 rfl (on ?_))
   cases hr135
   exact cu ⟨rfl, tv⟩
 ·rintro a w ⟨hS, hA⟩
  refine TG.ap ?_ hS hA
  refine rt_ ?_
  cases hr104
  intro a w hS hA
  refine ret1 hA rfl rfl ?_
  exact ⟨rfl, hS.ext⟩

theorem w21 {M : Prop} {W : World} {H : Hp} (hH : H.le (hp W)) {ad_l_0 : Option Addr} {cap_l_0 : Nat} {l_0 : List Bytes} (h_l_0 : Sl (Flat encS) 1 H ad_l_0 cap_l_0 l_0) {r : List Bytes} (hr : m21 l_0 = some r) : Calls Tryz.prog 21 [.slice ad_l_0 l_0.length cap_l_0].toArray W (RetK M H W (fun v K => ∃ (ad0 : Option Addr) (cap0 : Nat), v = .slice ad0 r.length cap0 ∧ Sl (Flat encS) 1 K ad0 cap0 r)) := by
 have := h_l_0.len
 unfold m21 at hr
 refine enterG (M := M) Tryz.func21 rfl Tryz.ntmps21 rfl hH ?_
 refine sq (rg (a1 rfl (on (sq (rg (m1 rfl (TG.nilRow 1 9 1 ?_)))))))
 obtain ⟨hk1, hr2⟩ := chk_some hr
 have := lenA ([] : List Bytes) l_0
 refine apS 1 (enc := encS) (l := ([] : List Bytes)) (m := l_0) T4.E24 rfl rfl rfl rfl rfl rfl h_l_0 0 rfl (fun _ => rfl) (fun _ => rfl) rfl hk1 fun ad3 cap4 => (a1 rfl (on (rt_ ?_)))
 cases hr2
 intro a w hS hA
 refine ret1 hA rfl rfl ?_
 exact ⟨⟨_, _, rfl, (hS.listOut 1 rfl (fun _ => rfl))⟩, hS.ext⟩

theorem w19 {M : Prop} {W : World} {H : Hp} (hH : H.le (hp W)) {cs_l_0 : List Value} (l_0 : Lexicon) (h_l_0 : (RLexicon) H cs_l_0 l_0) {r : Lexicon} (hr : m19 l_0 = some r) : Calls Tryz.prog 19 [.agg cs_l_0.toArray].toArray W (RetK M H W (fun v K => ∃ (cs0 : List Value), v = .agg cs0.toArray ∧ (RLexicon) K cs0 r)) := by
 have hh_l_0 := h_l_0
 obtain ⟨ad1, cap2, ad4, cap5, ad7, cap8, rfl, hl3, hl6, hl9⟩ := h_l_0
 have := hl3.len
 have := hl6.len
 have := hl9.len
 unfold m19 at hr
 refine enterG (M := M) Tryz.func19 rfl Tryz.ntmps19 rfl hH ?_
 refine sq (rg (bI (cs := [.slice ad1 l_0.numbers.length cap2, .slice ad4 l_0.names.length cap5, .slice ad7 l_0.nots.length cap8]) rfl rfl rfl fun q10 K11 hK12 => (al 1 (cs := [.slice none 0 0, .slice none 0 0, .slice none 0 0]) Tryz.zeroValue36 rfl rfl fun b13 => (on (sq (rg (fb 2 U26 rfl rfl rfl rfl Z24 (ld G24 rfl rfl ((sS 0 rfl hK12).drop 2) rfl ?_))))))))
 obtain ⟨r14, hx15, hr16⟩ := bd_some hr
 refine clK C21 rfl rfl rfl rfl (fun w H hH le => w21 hH (hl9.mono (Flat.mono _) (le.at 1 rfl)) hx15) ?_
 rintro v_ K17 ⟨ad18, cap19, rfl, hl20⟩
 have := hl20.len
 refine bu (cs := [.slice none 0 0, .slice none 0 0, .slice ad18 r14.length cap19]) T4.B36 rfl rfl rfl (al 2 (cs := [.slice none 0 0, .slice none 0 0, .slice none 0 0]) Tryz.zeroValue36 rfl rfl fun b21 => (sto 2 (cs := [.slice none 0 0, .slice none 0 0, .slice ad18 r14.length cap19]) Z36 rfl rfl rfl rfl rfl rfl rfl (on (sq (sq (rg (a1 rfl (on (TG.nilRow 4 123 2 (TG.as 4 (z := Own.list none 0 123 2 encNumber ([] : List Number)) rfl rfl ?_))))))))))
 obtain ⟨e103, hl104, hr105⟩ := bd_some hr16
 refine jn (fun a w => ∃ (ad106 : Option Addr) (cap107 : Nat), St M W H [K17, K11, H] [(4, Own.list ad106 cap107 123 2 encNumber e103), (2, cel b21 36 [.slice ad106 e103.length cap107, .slice none 0 0, .slice ad18 r14.length cap19]), (1, cel b13 36 [.slice none 0 0, .slice none 0 0, .slice none 0 0])] w ∧ Has [] 54 a [(1, .pointer (some q10)), (2, .pointer (some (⟨b13, 0, none⟩))), (3, .pointer (some (⟨b21, 0, none⟩)))]) ?_ ?_
 ·refine bk ?_
  refine lp hl104 (fun s108 a w => ∃ (ad109 : Option Addr) (cap110 : Nat), St M W H [K17, K11, H] [(4, Own.list ad109 cap110 123 2 encNumber s108.2), (2, cel b21 36 [.slice ad109 s108.2.length cap110, .slice none 0 0, .slice ad18 r14.length cap19]), (1, cel b13 36 [.slice none 0 0, .slice none 0 0, .slice none 0 0])] w ∧ Has [] 54 a [(1, .pointer (some q10)), (2, .pointer (some (⟨b13, 0, none⟩))), (3, .pointer (some (⟨b21, 0, none⟩))), (4, .int .i64 (s108.1 : Int))]) ?_ ?_
  ·intro a w hS hA
   exact ⟨none, 0, hS, hA.cut ⟨rfl, rfl, rfl, rfl, tv⟩⟩
  ·rintro j s108 y113 hr111 hz112 a w ⟨ad109, cap110, hS, hA⟩
   refine TG.ap ?_ hS hA
   unfold m19_1 at hr111
   refine sq (sq (rg (m1 rfl (fb 0 U26 rfl rfl rfl rfl Z22 (ld G22 rfl rfl ((sS 1 rfl hK12).take 1) rfl (lnL U22 rfl rfl (ltI rfl rfl rfl (on ?_))))))))
   refine ci rfl (fun hc117 => ?_) (fun hc117 => ?_)
   ·have hr118 := if_p hc117 hr111
    refine sk (sq (bk ?_))
    obtain ⟨x140, hx141, hr142⟩ := bd_some hr118
    obtain ⟨p143, rfl⟩ := hl3.adr hx141
    obtain ⟨cs144, hcs145, hq146, hr147⟩ := hl3.at hx141
    obtain rfl := hr147
    refine drG 16 mixed (by kernel_rfl) rfl (dt rfl (fb 0 U36 rfl rfl rfl rfl Z34 fin1) (dt rfl (ld G34 rfl rfl ((sO 2 rfl).take 1) rfl fin1) (dt rfl (fb 0 U26 rfl rfl rfl rfl Z22 fin1) (dt rfl (ld G22 rfl rfl ((sS 2 rfl hK12).take 1) rfl fin1) (dt rfl (m1 rfl fin1) (dt rfl (iaP U22 Z112 rfl rfl rfl rfl (lt_of hx141) fin1) (dt rfl (fb 0 U112 rfl rfl rfl rfl Z9 fin1) (dt rfl (ld G9 rfl rfl ((sS 3 rfl hq146).take 1) rfl fin1) (dt rfl (fb 0 U26 rfl rfl rfl rfl Z22 fin1) (dt rfl (ld G22 rfl rfl ((sS 2 rfl hK12).take 1) rfl fin1) (dt rfl (m1 rfl fin1) ?_)))))))))))
    refine dt rfl (iaP U22 Z112 rfl rfl rfl rfl (lt_of hx141) fin1) (dt rfl (fb 1 U112 rfl rfl rfl rfl Z3 fin1) (dt rfl (ld G3 rfl rfl ((sS 3 rfl hq146).drop 1) rfl fin1) (dt rfl (bu (cs := [.string (bs x140.text), .int .i64 x140.value]) T4.B123 rfl rfl rfl fin1) ?_)))
    refine DF.und (α := Option Addr × Nat) (none, 0) (fun q => .slice q.1 1 q.2) (fun (q : Option Addr × Nat) K => Sl (Flat encNumber) 2 K q.1 q.2 ([x140] : List Number)) (fun _ _ _ h x => x.mono (Flat.mono _) h) (by kernel_rfl) rfl (fun a w K hS hA hF => TG.pa hS hA (bS (cs := [.string (bs x140.text), .int .i64 x140.value]) T4.E34 rfl rfl rfl rfl fun q148 K149 hq150 hK151 => by
      have hl152 : Sl (Flat encNumber) 2 K149 (some q148) 1 ([x140] : List Number) := Sl.litR (css := [[.string (bs x140.text), .int .i64 x140.value]]) (l := ([x140] : List Number)) ⟨⟨rfl, rfl, rfl⟩, tv⟩ hq150 hK151 rfl
      have := hl152.len
      exact finU (f := fun q => .slice q.1 1 q.2) (G := (fun (q : Option Addr × Nat) K => Sl (Flat encNumber) 2 K q.1 q.2 ([x140] : List Number))) (_, _) (fun _ _ _ h x => x.mono (Flat.mono _) h) hl152)) ?_
    rintro ⟨ad154, cap155⟩
    refine DF.nil fun K156 hF => ?_
    obtain ⟨hu153, _⟩ := hF
    have := hu153.len
    obtain ⟨hk157, hr158⟩ := chk_some hr142
    have := lenA s108.2 ([x140] : List Number)
    refine apS 4 (enc := encNumber) (l := s108.2) (m := ([x140] : List Number)) T4.E34 rfl rfl rfl rfl rfl rfl hu153 0 rfl (fun _ => rfl) (fun _ => rfl) rfl hk157 fun ad159 cap160 => (fb 0 U36 rfl rfl rfl rfl Z34 (sto 2 (cs := [.slice ad159 ((s108.2 ++ ([x140] : List Number)).length) cap160]) Z34 rfl rfl rfl rfl rfl rfl rfl (on (rg (m1 rfl (adI rfl rfl rfl (by omega) (a1 rfl (on ?_))))))))
    cases hr158
    intro a w hS hA
    exact ⟨_, hz112, ad159, cap160, hS.selH [1, 2, 3] rfl, hA.cut ⟨rfl, rfl, rfl, rfl, tv⟩⟩
   ·have hr161 := if_n hc117 hr111
    refine xt rfl ?_
    cases hr161
    obtain rfl := Fin.out hz112
    intro a w hS hA
    exact ⟨ad109, cap110, hS, hA.cut ⟨rfl, rfl, rfl, tv⟩⟩
 ·rintro a w ⟨ad106, cap107, hS, hA⟩
  refine TG.ap ?_ hS hA
  refine sq (sq (rg (a1 rfl (on (TG.nilRow 6 24 1 ?_)))))
  have hR208 : Rows (RSl (Flat encS) 1) 1 H [] ([] : List (List Bytes)) := tv
  refine TG.as 6 (z := Own.rows none 0 24 1 [] ([] : List (List Bytes))) rfl rfl ?_
  obtain ⟨e314, hl315, hr316⟩ := bd_some hr105
  refine jn (fun a w => ∃ (ad317 : Option Addr) (cap318 : Nat) (css319 : List (List Value)) (K320 : Hp), St M W H [K320, K17, K11, H] [(6, Own.rows ad317 cap318 24 1 css319 e314), (4, Own.list ad106 cap107 123 2 encNumber e103), (2, cel b21 36 [.slice ad106 e103.length cap107, .slice ad317 e314.length cap318, .slice ad18 r14.length cap19]), (1, cel b13 36 [.slice none 0 0, .slice none 0 0, .slice none 0 0])] w ∧ Has [] 54 a [(2, .pointer (some (⟨b13, 0, none⟩))), (3, .pointer (some (⟨b21, 0, none⟩)))] ∧ Rows (RSl (Flat encS) 1) 1 K320 css319 e314) ?_ ?_
  ·refine bk ?_
   refine lp hl315 (fun s322 a w => ∃ (ad323 : Option Addr) (cap324 : Nat) (css325 : List (List Value)) (K326 : Hp), St M W H [K326, K17, K11, H] [(6, Own.rows ad323 cap324 24 1 css325 s322.2), (4, Own.list ad106 cap107 123 2 encNumber e103), (2, cel b21 36 [.slice ad106 e103.length cap107, .slice ad323 s322.2.length cap324, .slice ad18 r14.length cap19]), (1, cel b13 36 [.slice none 0 0, .slice none 0 0, .slice none 0 0])] w ∧ Has [] 54 a [(1, .pointer (some q10)), (2, .pointer (some (⟨b13, 0, none⟩))), (3, .pointer (some (⟨b21, 0, none⟩))), (5, .int .i64 (s322.1 : Int))] ∧ Rows (RSl (Flat encS) 1) 1 K326 css325 s322.2) ?_ ?_
   ·intro a w hS hA
    exact ⟨none, 0, [], H, hS.selH [2, 0, 1, 2] rfl, hA.cut ⟨rfl, rfl, rfl, rfl, tv⟩, hR208⟩
   ·rintro j s322 y330 hr328 hz329 a w ⟨ad323, cap324, css325, K326, hS, hA, hR327⟩
    refine TG.ap ?_ hS hA
    unfold m19_2 at hr328
    refine sq (sq (rg (m1 rfl (fb 1 U26 rfl rfl rfl rfl Z23 (ld G23 rfl rfl (((sS 2 rfl hK12).drop 1).take 1) rfl (lnL U23 rfl rfl (ltI rfl rfl rfl (on ?_))))))))
    refine ci rfl (fun hc334 => ?_) (fun hc334 => ?_)
    ·have hr335 := if_p hc334 hr328
     refine sk (sq (bk ?_))
     obtain ⟨x377, hx378, hr379⟩ := bd_some hr335
     obtain ⟨p380, rfl⟩ := hl6.adr hx378
     obtain ⟨cs381, hcs382, hq383, hr384⟩ := hl6.at hx378
     have hr385 := hr384
     obtain ⟨ad386, cap387, rfl, hl388⟩ := hr384
     have := hl388.len
     obtain ⟨r389, hx390, hr391⟩ := bd_some hr379
     refine drG 9 mixed (by kernel_rfl) rfl (dt rfl (fb 1 U36 rfl rfl rfl rfl Z23 fin1) (dt rfl (ld G23 rfl rfl (((sO 2 rfl).drop 1).take 1) rfl fin1) (dt rfl (fb 1 U26 rfl rfl rfl rfl Z23 fin1) (dt rfl (ld G23 rfl rfl (((sS 3 rfl hK12).drop 1).take 1) rfl fin1) (dt rfl (m1 rfl fin1) (dt rfl (iaP U23 Z24 rfl rfl rfl rfl (lt_of hx378) fin1) (dt rfl (ld G24 rfl rfl (sS 4 rfl hq383) rfl fin1) ?_)))))))
     refine DF.und (α := Option Addr × Nat) (none, 0) (fun q => .slice q.1 r389.length q.2) (fun (q : Option Addr × Nat) K => Sl (Flat encS) 1 K q.1 q.2 r389) (fun _ _ _ h x => x.mono (Flat.mono _) h) (by kernel_rfl) rfl (fun a w K hS hA hF => TG.pa hS hA (clK C21 rfl rfl rfl rfl (fun w H hH le => w21 hH (hl388.mono (Flat.mono _) (le.at 4 rfl)) hx390) (by
       rintro v_ K392 ⟨ad393, cap394, rfl, hl395⟩
       exact finU (f := fun q => .slice q.1 r389.length q.2) (G := (fun (q : Option Addr × Nat) K => Sl (Flat encS) 1 K q.1 q.2 r389)) (_, _) (fun _ _ _ h x => x.mono (Flat.mono _) h) hl395))) ?_
     rintro ⟨ad397, cap398⟩
     refine DF.und (α := Option Addr × Nat) (none, 0) (fun q => .slice q.1 1 q.2) (fun (q : Option Addr × Nat) K => Sl (RSl (Flat encS) 1) 1 K q.1 q.2 ([r389] : List (List Bytes))) (fun _ _ _ h x => x.mono (RSl.mono (Flat.mono _)) h) (by kernel_rfl) rfl (fun a w K hS hA hF => TG.pa hS hA (bS (cs := [.slice ad397 r389.length cap398]) T4.E23 rfl rfl rfl rfl fun q399 K400 hq401 hK402 => by
       refine TG.pack (fun K => Sl (RSl (Flat encS) 1) 1 K (some q399) 1 ([r389] : List (List Bytes))) (fun H le => Sl.litR (css := [[.slice ad397 r389.length cap398]]) (l := ([r389] : List (List Bytes))) ⟨⟨rfl, rfl, ⟨_, _, rfl, ((hF.1 rfl).mono (Flat.mono _) (le.at 1 rfl))⟩⟩, tv⟩ hq401 (hK402.mono (le.at 0 rfl)) rfl) fun K404 hl403 => ?_
       have := hl403.len
       refine sk1 ?_
       exact finU (f := fun q => .slice q.1 1 q.2) (G := (fun (q : Option Addr × Nat) K => Sl (RSl (Flat encS) 1) 1 K q.1 q.2 ([r389] : List (List Bytes)))) (_, _) (fun _ _ _ h x => x.mono (RSl.mono (Flat.mono _)) h) hl403)) ?_
     rintro ⟨ad406, cap407⟩
     refine DF.nil fun K408 hF => ?_
     obtain ⟨hu405, hu396, _⟩ := hF
     have := hu396.len
     have := hu405.len
     obtain ⟨hk409, hr410⟩ := chk_some hr391
     have := lenA s322.2 ([r389] : List (List Bytes))
     refine TG.pack (fun K => Sl (RSl (Flat encS) 1) 1 K ad406 cap407 ([r389] : List (List Bytes)) ∧ Rows (RSl (Flat encS) 1) 1 K css325 s322.2) (fun H le => ⟨hu405.mono (RSl.mono (Flat.mono _)) (le.at 0 rfl), hR327.mono (RSl.mono (Flat.mono _)) (le.at 1 rfl)⟩) fun K413 ⟨hm414, hR415⟩ => (apR 6 (l := s322.2) (m := ([r389] : List (List Bytes))) T4.E23 rfl rfl rfl rfl rfl rfl hm414 hR415 RSl.one rfl hk409 fun ad411 cap412 css417 hR416 => (fb 1 U36 rfl rfl rfl rfl Z23 (sto 2 (cs := [.slice ad411 ((s322.2 ++ ([r389] : List (List Bytes))).length) cap412]) Z23 rfl rfl rfl rfl rfl rfl rfl (on (rg (m1 rfl (adI rfl rfl rfl (by omega) (a1 rfl (on ?_)))))))))
     cases hr410
     intro a w hS hA
     exact ⟨_, hz329, ad411, cap412, css417, K413, hS.selH [0, 3, 4, 5] rfl, hA.cut ⟨rfl, rfl, rfl, rfl, tv⟩, hR416⟩
    ·have hr418 := if_n hc334 hr328
     refine xt rfl ?_
     cases hr418
     obtain rfl := Fin.out hz329
     intro a w hS hA
     exact ⟨ad323, cap324, css325, K326, hS, hA.cut ⟨rfl, rfl, tv⟩, hR327⟩
  ·rintro a w ⟨ad317, cap318, css319, K320, hS, hA, hR321⟩
   refine TG.ap ?_ hS hA
   refine sq (rg (ldA G36 Z36 rfl rfl (sO 2 rfl) rfl (sto 1 (cs := [.slice ad106 e103.length cap107, .slice ad317 e314.length cap318, .slice ad18 r14.length cap19]) Z36 rfl rfl rfl rfl rfl rfl rfl (on (rt_ ?_)))))
   cases hr316
   intro a w hS hA
   refine rc1 hA rfl (ResAt.cell rfl (loadsA G36 Z36 (cell_at (hS.get (t := 1) rfl)) rfl)) ?_
   exact ⟨⟨_, rfl, ⟨_, _, _, _, _, _, rfl, (hS.listOut 4 rfl (fun _ => rfl)), (hS.rowsOut 6 rfl 0 rfl (RSl.mono (Flat.mono _)) hR321), (hl20.mono (Flat.mono _) (hS.grow 1 rfl))⟩⟩, hS.ext⟩

theorem w20 {M : Prop} {W : World} {H : Hp} (hH : H.le (hp W)) {ad_l_0 : Option Addr} {cap_l_0 : Nat} {l_0 : List Swap} (h_l_0 : Sl (Flat encSwap) 3 H ad_l_0 cap_l_0 l_0) {r : List Swap} (hr : m20 l_0 = some r) : Calls Tryz.prog 20 [.slice ad_l_0 l_0.length cap_l_0].toArray W (RetK M H W (fun v K => ∃ (ad0 : Option Addr) (cap0 : Nat), v = .slice ad0 r.length cap0 ∧ Sl (Flat encSwap) 3 K ad0 cap0 r)) := by
 have := h_l_0.len
 unfold m20 at hr
 refine enterG (M := M) Tryz.func20 rfl Tryz.ntmps20 rfl hH ?_
 refine sq (rg (a1 rfl (on (sq (rg (a1 rfl (on (sq (sq (rg (a1 rfl ?_)))))))))))
 refine on (TG.nilRow 2 109 3 (TG.as 2 (z := Own.list none 0 109 3 encSwap ([] : List Swap)) rfl rfl ?_))
 obtain ⟨e82, hl83, hr84⟩ := bd_some hr
 refine jn (fun a w => ∃ (ad85 : Option Addr) (cap86 : Nat), St M W H [H] [(2, Own.list ad85 cap86 109 3 encSwap e82)] w ∧ Has [] 31 a [(3, .slice ad85 e82.length cap86)]) ?_ ?_
 ·refine bk ?_
  refine lp hl83 (fun s87 a w => ∃ (ad88 : Option Addr) (cap89 : Nat), St M W H [H] [(2, Own.list ad88 cap89 109 3 encSwap s87.2)] w ∧ Has [] 31 a [(0, .slice ad_l_0 l_0.length cap_l_0), (3, .slice ad88 s87.2.length cap89), (4, .int .i64 (s87.1 : Int))]) ?_ ?_
  ·intro a w hS hA
   exact ⟨none, 0, hS, hA.cut ⟨rfl, rfl, rfl, tv⟩⟩
  ·rintro j s87 y92 hr90 hz91 a w ⟨ad88, cap89, hS, hA⟩
   refine TG.ap ?_ hS hA
   unfold m20_1 at hr90
   refine sq (sq (rg (m1 rfl (m1 rfl (lnL U27 rfl rfl (ltI rfl rfl rfl (on ?_)))))))
   refine ci rfl (fun hc96 => ?_) (fun hc96 => ?_)
   ·have hr97 := if_p hc96 hr90
    refine sk (sq (bk ?_))
    obtain ⟨x119, hx120, hr121⟩ := bd_some hr97
    obtain ⟨p122, rfl⟩ := h_l_0.adr hx120
    obtain ⟨cs123, hcs124, hq125, hr126⟩ := h_l_0.at hx120
    obtain rfl := hr126
    refine drG 18 mixed (by kernel_rfl) rfl (dt rfl (m1 rfl fin1) (dt rfl (m1 rfl fin1) (dt rfl (m1 rfl fin1) (dt rfl (iaP U27 Z48 rfl rfl rfl rfl (lt_of hx120) fin1) (dt rfl (fb 0 U48 rfl rfl rfl rfl Z5 fin1) (dt rfl (ld G5 rfl rfl ((sS 1 rfl hq125).take 1) rfl fin1) (dt rfl (m1 rfl fin1) (dt rfl (m1 rfl fin1) (dt rfl (iaP U27 Z48 rfl rfl rfl rfl (lt_of hx120) fin1) (dt rfl (fb 1 U48 rfl rfl rfl rfl Z3 fin1) (dt rfl (ld G3 rfl rfl (((sS 1 rfl hq125).drop 1).take 1) rfl fin1) ?_)))))))))))
    refine dt rfl (m1 rfl fin1) (dt rfl (m1 rfl fin1) (dt rfl (iaP U27 Z48 rfl rfl rfl rfl (lt_of hx120) fin1) (dt rfl (fb 2 U48 rfl rfl rfl rfl Z3 fin1) (dt rfl (ld G3 rfl rfl ((sS 1 rfl hq125).drop 2) rfl fin1) (dt rfl (bu (cs := [.int .u8 x119.kind, .int .i64 x119.old_, .int .i64 x119.new_]) T4.B109 rfl rfl rfl fin1) ?_)))))
    refine DF.und (α := Option Addr × Nat) (none, 0) (fun q => .slice q.1 1 q.2) (fun (q : Option Addr × Nat) K => Sl (Flat encSwap) 3 K q.1 q.2 ([x119] : List Swap)) (fun _ _ _ h x => x.mono (Flat.mono _) h) (by kernel_rfl) rfl (fun a w K hS hA hF => TG.pa hS hA (bS (cs := [.int .u8 x119.kind, .int .i64 x119.old_, .int .i64 x119.new_]) T4.E38 rfl rfl rfl rfl fun q127 K128 hq129 hK130 => by
      have hl131 : Sl (Flat encSwap) 3 K128 (some q127) 1 ([x119] : List Swap) := Sl.litR (css := [[.int .u8 x119.kind, .int .i64 x119.old_, .int .i64 x119.new_]]) (l := ([x119] : List Swap)) ⟨⟨rfl, rfl, rfl⟩, tv⟩ hq129 hK130 rfl
      have := hl131.len
      exact finU (f := fun q => .slice q.1 1 q.2) (G := (fun (q : Option Addr × Nat) K => Sl (Flat encSwap) 3 K q.1 q.2 ([x119] : List Swap))) (_, _) (fun _ _ _ h x => x.mono (Flat.mono _) h) hl131)) ?_
    rintro ⟨ad133, cap134⟩
    refine DF.nil fun K135 hF => ?_
    obtain ⟨hu132, _⟩ := hF
    have := hu132.len
    obtain ⟨hk136, hr137⟩ := chk_some hr121
    have := lenA s87.2 ([x119] : List Swap)
    refine apS 2 (enc := encSwap) (l := s87.2) (m := ([x119] : List Swap)) T4.E38 rfl rfl rfl rfl rfl rfl hu132 0 rfl (fun _ => rfl) (fun _ => rfl) rfl hk136 fun ad138 cap139 => (a1 rfl (on (rg (m1 rfl (adI rfl rfl rfl (by omega) (a1 rfl (on ?_)))))))
    cases hr137
    intro a w hS hA
    exact ⟨_, hz91, ad138, cap139, hS.selH [1] rfl, hA.cut ⟨rfl, rfl, rfl, tv⟩⟩
   ·have hr140 := if_n hc96 hr90
    refine xt rfl ?_
    cases hr140
    obtain rfl := Fin.out hz91
    intro a w hS hA
    exact ⟨ad88, cap89, hS, hA.cut ⟨rfl, tv⟩⟩
 ·rintro a w ⟨ad85, cap86, hS, hA⟩
  refine TG.ap ?_ hS hA
  refine sq (rg (m1 rfl (a1 rfl (on (rt_ ?_)))))
  cases hr84
  intro a w hS hA
  refine ret1 hA rfl rfl ?_
  exact ⟨⟨_, _, rfl, (hS.listOut 2 rfl (fun _ => rfl))⟩, hS.ext⟩

theorem w28 {M : Prop} {W : World} (n_0 : Int) (low : Int) (high : Int) {r : Bool} (hr : m28 n_0 low high = some r) : Calls Tryz.prog 28 [.int .i64 n_0, .int .i64 low, .int .i64 high].toArray W (RetS M W (.bool r)) := by
 unfold m28 at hr
 refine enterG (M := M) Tryz.func28 rfl Tryz.ntmps28 rfl (Hp.le.refl _) ?_
 refine sq (rg (a1 rfl (on (sq ?_))))
 obtain ⟨t4, hx5, hr6⟩ := bd_some hr
 refine jn (fun a w => St M W (hp W) [(hp W)] [] w ∧ Has [] 15 a [(6, .bool t4)]) ?_ ?_
 ·refine rg (m1 rfl (m1 rfl (geI rfl rfl rfl (m1 rfl ?_))))
  by_cases hb7 : low ≤ n_0
  ·have hr8 := if_p hb7 hx5
   refine gt hb7 rfl (m1 rfl (gt hb7 rfl (m1 rfl (gt hb7 rfl (leI rfl rfl rfl (pt hb7 rfl rfl (a1 rfl (on ?_))))))))
   cases hr8
   exact cu ⟨rfl, tv⟩
  ·have hr9 := if_n hb7 hx5
   refine gf hb7 rfl (gf hb7 rfl (gf hb7 rfl (pf hb7 rfl rfl (a1 rfl (on ?_)))))
   cases hr9
   exact cu ⟨rfl, tv⟩
 ·rintro a w ⟨hS, hA⟩
  refine TG.ap ?_ hS hA
  refine rt_ ?_
  cases hr6
  intro a w hS hA
  refine ret1 hA rfl rfl ?_
  exact ⟨rfl, hS.ext⟩

theorem w60 {M : Prop} {W : World} (s_0 : Bytes) {r : Bool} (hr : m60 s_0 = some r) : Calls Tryz.prog 60 [.string (bs s_0)].toArray W (RetS M W (.bool r)) := by
 unfold m60 at hr
 refine enterG (M := M) Tryz.func60 rfl Tryz.ntmps60 rfl (Hp.le.refl _) ?_
 refine sq (rg (a1 rfl (on (sq (sq (rg (a1 rfl (on ?_))))))))
 obtain ⟨e17, hl18, hr19⟩ := bd_some hr
 refine jn (fun a w => ∃ t20, e17 = .inl t20 ∧ St M W (hp W) [(hp W)] [] w ∧ Has [] 23 a [(0, .string (bs s_0))]) ?_ ?_
 ·refine bk ?_
  refine lp hl18 (fun s21 a w => St M W (hp W) [(hp W)] [] w ∧ Has [] 23 a [(0, .string (bs s_0)), (3, .int .i64 (s21 : Int))]) ?_ ?_
  ·exact cu ⟨rfl, rfl, tv⟩
  ·rintro j s21 y24 hr22 hz23 a w ⟨hS, hA⟩
   refine TG.ap ?_ hS hA
   unfold m60_1 at hr22
   refine sq (sq (rg (m1 rfl (m1 rfl (lnS U9 rfl rfl (ltI rfl rfl rfl (on ?_)))))))
   refine ci rfl (fun hc28 => ?_) (fun hc28 => ?_)
   ·have hr29 := if_p hc28 hr22
    refine sk (sq (bk (sq ?_)))
    obtain ⟨t46, hx47, hr48⟩ := bd_some hr29
    refine jn (fun a w => St M W (hp W) [(hp W)] [] w ∧ Has [] 23 a [(0, .string (bs s_0)), (3, .int .i64 (s21 : Int)), (19, .bool t46)]) ?_ ?_
    ·refine rg (m1 rfl (m1 rfl ?_))
     obtain ⟨x49, hx50, hr51⟩ := bd_some hx47
     have := UInt8.toNat_lt x49
     refine ixS U9 rfl rfl rfl rfl hx50 (ltI rfl rfl rfl (m1 rfl ?_))
     by_cases hb52 : (x49.toNat : Int) < 33
     ·have hr53 := if_p hb52 hr51
      refine gf' hb52 rfl (gf' hb52 rfl (gf' hb52 rfl (gf' hb52 rfl (pt hb52 rfl rfl (on ?_)))))
      cases hr53
      exact cu ⟨rfl, rfl, rfl, tv⟩
     ·have hr54 := if_n hb52 hr51
      refine gt' hb52 rfl (m1 rfl (gt' hb52 rfl (m1 rfl (gt' hb52 rfl (ixS U9 rfl rfl rfl rfl hx50 (gt' hb52 rfl (gtI rfl rfl rfl (pf hb52 rfl rfl (on ?_)))))))))
      cases hr54
      exact cu ⟨rfl, rfl, rfl, tv⟩
    ·rintro a w ⟨hS, hA⟩
     refine TG.ap ?_ hS hA
     refine cb rfl (fun hc58 => ?_) (fun hc58 => ?_)
     ·have hr59 := if_p hc58 hr48
      refine sq (rg (a1 rfl (on (rt_ ?_))))
      cases hr59
      obtain rfl := Fin.out hz23
      cases hr19
      intro a w hS hA
      refine ret1 hA rfl rfl ?_
      exact ⟨rfl, hS.ext⟩
     ·have hr60 := if_f hc58 hr48
      refine sk (rg (m1 rfl ?_))
      obtain ⟨hk61, hr62⟩ := chk_some hr60
      refine adI rfl rfl rfl hk61 (a1 rfl (on ?_))
      cases hr62
      intro a w hS hA
      exact ⟨_, hz23, hS, hA.cut ⟨rfl, rfl, tv⟩⟩
   ·have hr63 := if_n hc28 hr22
    refine xt rfl ?_
    cases hr63
    obtain rfl := Fin.out hz23
    intro a w hS hA
    exact ⟨_, rfl, hS, hA.cut ⟨rfl, tv⟩⟩
 ·rintro a w ⟨t20, rfl, hS, hA⟩
  refine TG.ap ?_ hS hA
  refine sq (rg (m1 rfl (lnS U9 rfl rfl ?_)))
  obtain ⟨r64, hx65, hr66⟩ := bd_some hr19
  refine clS C28 rfl rfl rfl rfl (fun w H hH le => w28 (s_0.length : Int) 1 32 hx65) (a1 rfl (on (rt_ ?_)))
  cases hr66
  intro a w hS hA
  refine ret1 hA rfl rfl ?_
  exact ⟨rfl, hS.ext⟩

theorem w55 {M : Prop} {W : World} {H : Hp} (hH : H.le (hp W)) {ad_l_0 : Option Addr} {cap_l_0 : Nat} {l_0 : List Bytes} (h_l_0 : Sl (Flat encS) 1 H ad_l_0 cap_l_0 l_0) (most : Int) {r : Bool} (hr : m55 l_0 most = some r) : Calls Tryz.prog 55 [.slice ad_l_0 l_0.length cap_l_0, .int .i64 most].toArray W (RetS M W (.bool r)) := by
 have := h_l_0.len
 unfold m55 at hr
 refine enterG (M := M) Tryz.func55 rfl Tryz.ntmps55 rfl hH ?_
 refine sq (rg (a1 rfl (on (sq (sq (rg (a1 rfl (on ?_))))))))
 obtain ⟨e19, hl20, hr21⟩ := bd_some hr
 refine jn (fun a w => ∃ t22, e19 = .inl t22 ∧ St M W H [H] [] w ∧ Has [] 22 a [(0, .slice ad_l_0 l_0.length cap_l_0), (1, .int .i64 most)]) ?_ ?_
 ·refine bk ?_
  refine lp hl20 (fun s23 a w => St M W H [H] [] w ∧ Has [] 22 a [(0, .slice ad_l_0 l_0.length cap_l_0), (1, .int .i64 most), (5, .int .i64 (s23 : Int))]) ?_ ?_
  ·exact cu ⟨rfl, rfl, rfl, tv⟩
  ·rintro j s23 y26 hr24 hz25 a w ⟨hS, hA⟩
   refine TG.ap ?_ hS hA
   unfold m55_1 at hr24
   refine sq (sq (rg (m1 rfl (m1 rfl (lnL U24 rfl rfl (ltI rfl rfl rfl (on ?_)))))))
   refine ci rfl (fun hc30 => ?_) (fun hc30 => ?_)
   ·have hr31 := if_p hc30 hr24
    refine sk (sq (bk (sq (rg (m1 rfl (m1 rfl ?_))))))
    obtain ⟨x46, hx47, hr48⟩ := bd_some hr31
    obtain ⟨p49, rfl⟩ := h_l_0.adr hx47
    obtain ⟨cs50, hcs51, hq52, hr53⟩ := h_l_0.at hx47
    obtain rfl := hr53
    refine iaP U24 Z9 rfl rfl rfl rfl (lt_of hx47) (ld G9 rfl rfl (sS 0 rfl hq52) rfl ?_)
    obtain ⟨r54, hx55, hr56⟩ := bd_some hr48
    refine clS C60 rfl rfl rfl rfl (fun w H hH le => w60 x46 hx55) (nt rfl rfl (on ?_))
    refine cb rfl (fun hc60 => ?_) (fun hc60 => ?_)
    ·replace hc60 := nbt hc60
     have hr61 := if_f hc60 hr56
     refine sq (rg (a1 rfl (on (rt_ ?_))))
     cases hr61
     obtain rfl := Fin.out hz25
     cases hr21
     intro a w hS hA
     refine ret1 hA rfl rfl ?_
     exact ⟨rfl, hS.ext⟩
    ·replace hc60 := nbf hc60
     have hr62 := if_p hc60 hr56
     refine sk (rg (m1 rfl (adI rfl rfl rfl (by omega) (a1 rfl (on ?_)))))
     cases hr62
     intro a w hS hA
     exact ⟨_, hz25, hS, hA.cut ⟨rfl, rfl, rfl, tv⟩⟩
   ·have hr63 := if_n hc30 hr24
    refine xt rfl ?_
    cases hr63
    obtain rfl := Fin.out hz25
    intro a w hS hA
    exact ⟨_, rfl, hS, hA.cut ⟨rfl, rfl, tv⟩⟩
 ·rintro a w ⟨t22, rfl, hS, hA⟩
  refine TG.ap ?_ hS hA
  refine sq (rg (m1 rfl (lnL U24 rfl rfl (m1 rfl (leI rfl rfl rfl (a1 rfl (on (rt_ ?_))))))))
  cases hr21
  intro a w hS hA
  refine ret1 hA rfl rfl ?_
  exact ⟨rfl, hS.ext⟩

theorem w34 {M : Prop} {W : World} {H : Hp} (hH : H.le (hp W)) {cs_l_0 : List Value} (l_0 : Lexicon) (h_l_0 : (RLexicon) H cs_l_0 l_0) {r : Int} (hr : m34 l_0 = some r) : Calls Tryz.prog 34 [.agg cs_l_0.toArray].toArray W (RetS M W (.int .i64 r)) := by
 have hh_l_0 := h_l_0
 obtain ⟨ad1, cap2, ad4, cap5, ad7, cap8, rfl, hl3, hl6, hl9⟩ := h_l_0
 have := hl3.len
 have := hl6.len
 have := hl9.len
 unfold m34 at hr
 refine enterG (M := M) Tryz.func34 rfl Tryz.ntmps34 rfl hH ?_
 refine sq (rg (bI (cs := [.slice ad1 l_0.numbers.length cap2, .slice ad4 l_0.names.length cap5, .slice ad7 l_0.nots.length cap8]) rfl rfl rfl fun q10 K11 hK12 => (a1 rfl (on (sq (rg (a1 rfl (on (sq (sq (rg ?_)))))))))))
 refine a1 rfl (on (TG.nilRow 2 9 1 (TG.as 2 (z := Own.list none 0 9 1 encS ([] : List Bytes)) rfl rfl ?_)))
 obtain ⟨e133, hl134, hr135⟩ := bd_some hr
 refine jn (fun a w => ∃ t136, e133 = .inl t136 ∧ ∃ (ad137 : Option Addr) (cap138 : Nat), St M W H [K11, H] [(2, Own.list ad137 cap138 9 1 encS t136)] w ∧ Has [] 112 a [(1, .pointer (some q10)), (3, .slice ad137 t136.length cap138)]) ?_ ?_
 ·refine bk ?_
  refine lp hl134 (fun s139 a w => ∃ (ad140 : Option Addr) (cap141 : Nat), St M W H [K11, H] [(2, Own.list ad140 cap141 9 1 encS s139.2)] w ∧ Has [] 112 a [(1, .pointer (some q10)), (3, .slice ad140 s139.2.length cap141), (4, .int .i64 (s139.1 : Int))]) ?_ ?_
  ·intro a w hS hA
   exact ⟨none, 0, hS, hA.cut ⟨rfl, rfl, rfl, tv⟩⟩
  ·rintro j s139 y144 hr142 hz143 a w ⟨ad140, cap141, hS, hA⟩
   refine TG.ap ?_ hS hA
   unfold m34_1 at hr142
   refine sq (sq (rg (m1 rfl (fb 0 U26 rfl rfl rfl rfl Z22 (ld G22 rfl rfl ((sS 0 rfl hK12).take 1) rfl (lnL U22 rfl rfl (ltI rfl rfl rfl (on ?_))))))))
   refine ci rfl (fun hc148 => ?_) (fun hc148 => ?_)
   ·have hr149 := if_p hc148 hr142
    refine sk (sq (bk (sq (sq ?_))))
    obtain ⟨t201, hx202, hr203⟩ := bd_some hr149
    refine jn (fun a w => St M W H [K11, H] [(2, Own.list ad140 cap141 9 1 encS s139.2)] w ∧ Has [] 112 a [(1, .pointer (some q10)), (3, .slice ad140 s139.2.length cap141), (4, .int .i64 (s139.1 : Int)), (32, .bool t201)]) ?_ ?_
    ·refine rg (fb 0 U26 rfl rfl rfl rfl Z22 (ld G22 rfl rfl ((sS 0 rfl hK12).take 1) rfl (m1 rfl ?_)))
     obtain ⟨x204, hx205, hr206⟩ := bd_some hx202
     obtain ⟨p207, rfl⟩ := hl3.adr hx205
     obtain ⟨cs208, hcs209, hq210, hr211⟩ := hl3.at hx205
     obtain rfl := hr211
     refine iaP U22 Z112 rfl rfl rfl rfl (lt_of hx205) (fb 0 U112 rfl rfl rfl rfl Z9 (ld G9 rfl rfl ((sS 1 rfl hq210).take 1) rfl ?_))
     obtain ⟨r212, hx213, hr214⟩ := bd_some hr206
     refine clS C60 rfl rfl rfl rfl (fun w H hH le => w60 x204.text hx213) (nt rfl rfl (m1 rfl ?_))
     rcases Bool.eq_false_or_eq_true (r212) with hb215 | hb215
     ·have hr216 := if_p hb215 hr214
      refine gN rfl rfl (congrArg not (hb215)) (fb 0 U26 rfl rfl rfl rfl Z22 (gN rfl rfl (congrArg not (hb215)) (ld G22 rfl rfl ((sS 0 rfl hK12).take 1) rfl (gN rfl rfl (congrArg not (hb215)) (m1 rfl (gN rfl rfl (congrArg not (hb215)) (iaP U22 Z112 rfl rfl rfl rfl (lt_of hx205) (gN rfl rfl (congrArg not (hb215)) (fb 1 U112 rfl rfl rfl rfl Z3 (gN rfl rfl (congrArg not (hb215)) (ld G3 rfl rfl ((sS 1 rfl hq210).drop 1) rfl ?_)))))))))))
      refine gN rfl rfl (congrArg not (hb215)) ?_
      obtain ⟨r217, hx218, hr219⟩ := bd_some hr216
      refine clS C28 rfl rfl rfl rfl (fun w H hH le => w28 x204.value 0 999999999 hx218) (gN rfl rfl (congrArg not (hb215)) (nt rfl rfl (pF rfl rfl (congrArg not (hb215)) rfl (on ?_))))
      cases hr219
      exact cu ⟨rfl, rfl, rfl, rfl, tv⟩
     ·have hr220 := if_f hb215 hr214
      refine gF rfl rfl (congrArg not (hb215)) rfl (gF rfl rfl (congrArg not (hb215)) rfl (gF rfl rfl (congrArg not (hb215)) rfl (gF rfl rfl (congrArg not (hb215)) rfl (gF rfl rfl (congrArg not (hb215)) rfl (gF rfl rfl (congrArg not (hb215)) rfl (gF rfl rfl (congrArg not (hb215)) rfl (gF rfl rfl (congrArg not (hb215)) rfl (pT rfl rfl (congrArg not (hb215)) rfl (on ?_)))))))))
      cases hr220
      exact cu ⟨rfl, rfl, rfl, rfl, tv⟩
    ·rintro a w ⟨hS, hA⟩
     refine TG.ap ?_ hS hA
     refine cb rfl (fun hc224 => ?_) (fun hc224 => ?_)
     ·have hr225 := if_p hc224 hr203
      refine sq (rg (a1 rfl (on (rt_ ?_))))
      cases hr225
      obtain rfl := Fin.out hz143
      cases hr135
      intro a w hS hA
      refine ret1 hA rfl rfl ?_
      exact ⟨rfl, hS.ext⟩
     ·have hr226 := if_f hc224 hr203
      refine sk (rg (m1 rfl (fb 0 U26 rfl rfl rfl rfl Z22 (ld G22 rfl rfl ((sS 0 rfl hK12).take 1) rfl (m1 rfl ?_)))))
      obtain ⟨x227, hx228, hr229⟩ := bd_some hr226
      obtain ⟨p230, rfl⟩ := hl3.adr hx228
      obtain ⟨cs231, hcs232, hq233, hr234⟩ := hl3.at hx228
      obtain rfl := hr234
      refine iaP U22 Z112 rfl rfl rfl rfl (lt_of hx228) (fb 0 U112 rfl rfl rfl rfl Z9 (ld G9 rfl rfl ((sS 1 rfl hq233).take 1) rfl ?_))
      obtain ⟨hk235, hr236⟩ := chk_some hr229
      have := lenA s139.2 [x227.text]
      refine ap1 2 encS (l := s139.2) x227.text T4.E24 rfl rfl rfl rfl rfl rfl rfl rfl rfl rfl rfl rfl hk235 fun ad237 cap238 u239 => (a1 rfl (on (rg (m1 rfl (adI rfl rfl rfl (by omega) (a1 rfl (on ?_)))))))
      cases hr236
      intro a w hS hA
      exact ⟨_, hz143, ad237, cap238, hS, hA.cut ⟨rfl, rfl, rfl, tv⟩⟩
   ·have hr240 := if_n hc148 hr142
    refine xt rfl ?_
    cases hr240
    obtain rfl := Fin.out hz143
    intro a w hS hA
    exact ⟨_, rfl, ad140, cap141, hS, hA.cut ⟨rfl, rfl, tv⟩⟩
 ·rintro a w ⟨t136, rfl, ad137, cap138, hS, hA⟩
  refine TG.ap ?_ hS hA
  refine sq (sq (rg (a1 rfl (on ?_))))
  obtain ⟨e372, hl373, hr374⟩ := bd_some hr135
  refine jn (fun a w => ∃ t375, e372 = .inl t375 ∧ ∃ (ad376 : Option Addr) (cap377 : Nat), St M W H [K11, H] [(2, Own.list ad376 cap377 9 1 encS t375)] w ∧ Has [] 112 a [(1, .pointer (some q10)), (3, .slice ad376 t375.length cap377)]) ?_ ?_
  ·refine bk ?_
   refine lp hl373 (fun s378 a w => ∃ (ad379 : Option Addr) (cap380 : Nat), St M W H [K11, H] [(2, Own.list ad379 cap380 9 1 encS s378.2)] w ∧ Has [] 112 a [(1, .pointer (some q10)), (3, .slice ad379 s378.2.length cap380), (5, .int .i64 (s378.1 : Int))]) ?_ ?_
   ·intro a w hS hA
    exact ⟨ad137, cap138, hS, hA.cut ⟨rfl, rfl, rfl, tv⟩⟩
   ·rintro j s378 y383 hr381 hz382 a w ⟨ad379, cap380, hS, hA⟩
    refine TG.ap ?_ hS hA
    unfold m34_2 at hr381
    refine sq (sq (rg (m1 rfl (fb 1 U26 rfl rfl rfl rfl Z23 (ld G23 rfl rfl (((sS 0 rfl hK12).drop 1).take 1) rfl (lnL U23 rfl rfl (ltI rfl rfl rfl (on ?_))))))))
    refine ci rfl (fun hc387 => ?_) (fun hc387 => ?_)
    ·have hr388 := if_p hc387 hr381
     refine sk (sq (bk (sq (sq ?_))))
     obtain ⟨t445, hx446, hr447⟩ := bd_some hr388
     refine jn (fun a w => St M W H [K11, H] [(2, Own.list ad379 cap380 9 1 encS s378.2)] w ∧ Has [] 112 a [(1, .pointer (some q10)), (3, .slice ad379 s378.2.length cap380), (5, .int .i64 (s378.1 : Int)), (64, .bool t445)]) ?_ ?_
     ·refine rg (fb 1 U26 rfl rfl rfl rfl Z23 (ld G23 rfl rfl (((sS 0 rfl hK12).drop 1).take 1) rfl (m1 rfl ?_)))
      obtain ⟨x448, hx449, hr450⟩ := bd_some hx446
      obtain ⟨p451, rfl⟩ := hl6.adr hx449
      obtain ⟨cs452, hcs453, hq454, hr455⟩ := hl6.at hx449
      have hr456 := hr455
      obtain ⟨ad457, cap458, rfl, hl459⟩ := hr455
      have := hl459.len
      refine iaP U23 Z24 rfl rfl rfl rfl (lt_of hx449) (ld G24 rfl rfl (sS 1 rfl hq454) rfl (lnL U24 rfl rfl (eqI rfl rfl rfl (m1 rfl ?_))))
      by_cases hb460 : (x448.length : Int) = 0
      ·have hr461 := if_p hb460 hr450
       refine gf' hb460 rfl (gf' hb460 rfl (gf' hb460 rfl (gf' hb460 rfl (gf' hb460 rfl (gf' hb460 rfl (gf' hb460 rfl (pt hb460 rfl rfl (on ?_))))))))
       cases hr461
       exact cu ⟨rfl, rfl, rfl, rfl, tv⟩
      ·have hr462 := if_n hb460 hr450
       refine gt' hb460 rfl (fb 1 U26 rfl rfl rfl rfl Z23 (gt' hb460 rfl (ld G23 rfl rfl (((sS 0 rfl hK12).drop 1).take 1) rfl (gt' hb460 rfl (m1 rfl (gt' hb460 rfl (iaP U23 Z24 rfl rfl rfl rfl (lt_of hx449) (gt' hb460 rfl (ld G24 rfl rfl (sS 1 rfl hq454) rfl (gt' hb460 rfl ?_))))))))))
       obtain ⟨r463, hx464, hr465⟩ := bd_some hr462
       refine clS C55 rfl rfl rfl rfl (fun w H hH le => w55 hH (hl459.mono (Flat.mono _) (le.at 1 rfl)) 5 hx464) (gt' hb460 rfl (nt rfl rfl (pf hb460 rfl rfl (on ?_))))
       cases hr465
       exact cu ⟨rfl, rfl, rfl, rfl, tv⟩
     ·rintro a w ⟨hS, hA⟩
      refine TG.ap ?_ hS hA
      refine cb rfl (fun hc469 => ?_) (fun hc469 => ?_)
      ·have hr470 := if_p hc469 hr447
       refine sq (rg (a1 rfl (on (rt_ ?_))))
       cases hr470
       obtain rfl := Fin.out hz382
       cases hr374
       intro a w hS hA
       refine ret1 hA rfl rfl ?_
       exact ⟨rfl, hS.ext⟩
      ·have hr471 := if_f hc469 hr447
       refine sk (rg (m1 rfl (fb 1 U26 rfl rfl rfl rfl Z23 (ld G23 rfl rfl (((sS 0 rfl hK12).drop 1).take 1) rfl (m1 rfl ?_)))))
       obtain ⟨x472, hx473, hr474⟩ := bd_some hr471
       obtain ⟨p475, rfl⟩ := hl6.adr hx473
       obtain ⟨cs476, hcs477, hq478, hr479⟩ := hl6.at hx473
       have hr480 := hr479
       obtain ⟨ad481, cap482, rfl, hl483⟩ := hr479
       have := hl483.len
       refine iaP U23 Z24 rfl rfl rfl rfl (lt_of hx473) (ld G24 rfl rfl (sS 1 rfl hq478) rfl ?_)
       obtain ⟨hk484, hr485⟩ := chk_some hr474
       have := lenA s378.2 x472
       refine apS 2 (enc := encS) (l := s378.2) (m := x472) T4.E24 rfl rfl rfl rfl rfl rfl hl483 1 rfl (fun _ => rfl) (fun _ => rfl) rfl hk484 fun ad486 cap487 => (a1 rfl (on (rg (m1 rfl (adI rfl rfl rfl (by omega) (a1 rfl (on ?_)))))))
       cases hr485
       intro a w hS hA
       exact ⟨_, hz382, ad486, cap487, hS, hA.cut ⟨rfl, rfl, rfl, tv⟩⟩
    ·have hr488 := if_n hc387 hr381
     refine xt rfl ?_
     cases hr488
     obtain rfl := Fin.out hz382
     intro a w hS hA
     exact ⟨_, rfl, ad379, cap380, hS, hA.cut ⟨rfl, rfl, tv⟩⟩
  ·rintro a w ⟨t375, rfl, ad376, cap377, hS, hA⟩
   refine TG.ap ?_ hS hA
   refine sq (sq ?_)
   obtain ⟨t498, hx499, hr500⟩ := bd_some hr374
   refine jn (fun a w => St M W H [K11, H] [(2, Own.list ad376 cap377 9 1 encS t375)] w ∧ Has [] 112 a [(1, .pointer (some q10)), (3, .slice ad376 t375.length cap377), (87, .bool t498)]) ?_ ?_
   ·refine rg (fb 2 U26 rfl rfl rfl rfl Z24 (ld G24 rfl rfl ((sS 0 rfl hK12).drop 2) rfl ?_))
    obtain ⟨r501, hx502, hr503⟩ := bd_some hx499
    refine clS C55 rfl rfl rfl rfl (fun w H hH le => w55 hH (hl9.mono (Flat.mono _) (le.at 1 rfl)) 40 hx502) (nt rfl rfl (m1 rfl ?_))
    rcases Bool.eq_false_or_eq_true (r501) with hb504 | hb504
    ·have hr505 := if_p hb504 hr503
     refine gN rfl rfl (congrArg not (hb504)) (fb 0 U26 rfl rfl rfl rfl Z22 (gN rfl rfl (congrArg not (hb504)) (ld G22 rfl rfl ((sS 0 rfl hK12).take 1) rfl (gN rfl rfl (congrArg not (hb504)) (lnL U22 rfl rfl (gN rfl rfl (congrArg not (hb504)) (gtI rfl rfl rfl (pF rfl rfl (congrArg not (hb504)) rfl (m1 rfl ?_)))))))))
     by_cases hb506 : 40 < (l_0.numbers.length : Int)
     ·have hr507 := if_p hb506 hr505
      refine gf' hb506 rfl (gf' hb506 rfl (gf' hb506 rfl (gf' hb506 rfl (pt hb506 rfl rfl (on ?_)))))
      cases hr507
      exact cu ⟨rfl, rfl, rfl, tv⟩
     ·have hr508 := if_n hb506 hr505
      refine gt' hb506 rfl (fb 1 U26 rfl rfl rfl rfl Z23 (gt' hb506 rfl (ld G23 rfl rfl (((sS 0 rfl hK12).drop 1).take 1) rfl (gt' hb506 rfl (lnL U23 rfl rfl (gt' hb506 rfl (gtI rfl rfl rfl (pf hb506 rfl rfl (on ?_)))))))))
      cases hr508
      exact cu ⟨rfl, rfl, rfl, tv⟩
    ·have hr509 := if_f hb504 hr503
     refine gF rfl rfl (congrArg not (hb504)) rfl (gF rfl rfl (congrArg not (hb504)) rfl (gF rfl rfl (congrArg not (hb504)) rfl (gF rfl rfl (congrArg not (hb504)) rfl (pT rfl rfl (congrArg not (hb504)) rfl (m1 rfl (gF rfl rfl rfl rfl (gF rfl rfl rfl rfl (gF rfl rfl rfl rfl (gF rfl rfl rfl rfl (pT rfl rfl rfl rfl (on ?_)))))))))))
     cases hr509
     exact cu ⟨rfl, rfl, rfl, tv⟩
   ·rintro a w ⟨hS, hA⟩
    refine TG.ap ?_ hS hA
    refine cb rfl (fun hc513 => ?_) (fun hc513 => ?_)
    ·have hr514 := if_p hc513 hr500
     refine sq (rg (a1 rfl (on (rt_ ?_))))
     cases hr514
     intro a w hS hA
     refine ret1 hA rfl rfl ?_
     exact ⟨rfl, hS.ext⟩
    ·have hr515 := if_f hc513 hr500
     refine sk (sq (rg (m1 rfl (fb 2 U26 rfl rfl rfl rfl Z24 (ld G24 rfl rfl ((sS 0 rfl hK12).drop 2) rfl ?_)))))
     obtain ⟨hk516, hr517⟩ := chk_some hr515
     have := lenA t375 l_0.nots
     refine apS 2 (enc := encS) (l := t375) (m := l_0.nots) T4.E24 rfl rfl rfl rfl rfl rfl hl9 1 rfl (fun _ => rfl) (fun _ => rfl) rfl hk516 fun ad518 cap519 => (a1 rfl (on (sq (sq (rg (a1 rfl (on ?_)))))))
     obtain ⟨e542, hl543, hr544⟩ := bd_some hr517
     refine jn (fun a w => ∃ t545, e542 = .inl t545 ∧ St M W H [K11, H] [(2, Own.list ad518 cap519 9 1 encS (t375 ++ l_0.nots))] w ∧ Has [] 112 a []) ?_ ?_
     ·refine bk ?_
      refine lp hl543 (fun s546 a w => St M W H [K11, H] [(2, Own.list ad518 cap519 9 1 encS (t375 ++ l_0.nots))] w ∧ Has [] 112 a [(3, .slice ad518 ((t375 ++ l_0.nots).length) cap519), (6, .int .i64 (s546 : Int))]) ?_ ?_
      ·exact cu ⟨rfl, rfl, tv⟩
      ·rintro j s546 y549 hr547 hz548 a w ⟨hS, hA⟩
       refine TG.ap ?_ hS hA
       unfold m34_3 at hr547
       refine sq (sq (rg (m1 rfl (m1 rfl (lnL U24 rfl rfl (ltI rfl rfl rfl (on ?_)))))))
       refine ci rfl (fun hc553 => ?_) (fun hc553 => ?_)
       ·have hr554 := if_p hc553 hr547
        refine sk (sq (bk (sq (rg (a1 rfl (on ?_))))))
        obtain ⟨e590, hl591, hr592⟩ := bd_some hr554
        refine jn (fun a w => ∃ t593, e590 = .inl t593 ∧ St M W H [K11, H] [(2, Own.list ad518 cap519 9 1 encS (t375 ++ l_0.nots))] w ∧ Has [] 112 a [(3, .slice ad518 ((t375 ++ l_0.nots).length) cap519), (6, .int .i64 (s546 : Int))]) ?_ ?_
        ·refine bk ?_
         refine lp hl591 (fun s594 a w => St M W H [K11, H] [(2, Own.list ad518 cap519 9 1 encS (t375 ++ l_0.nots))] w ∧ Has [] 112 a [(3, .slice ad518 ((t375 ++ l_0.nots).length) cap519), (6, .int .i64 (s546 : Int)), (7, .int .i64 (s594 : Int))]) ?_ ?_
         ·exact cu ⟨rfl, rfl, rfl, tv⟩
         ·rintro j s594 y597 hr595 hz596 a w ⟨hS, hA⟩
          refine TG.ap ?_ hS hA
          unfold m34_4 at hr595
          refine sq (sq (rg (m1 rfl (m1 rfl (ltI rfl rfl rfl (on ?_))))))
          refine ci rfl (fun hc601 => ?_) (fun hc601 => ?_)
          ·have hr602 := if_p hc601 hr595
           refine sk (sq (bk (sq ?_)))
           obtain ⟨x614, hx615, hr616⟩ := bd_some hr602
           refine TG.addr 2 rfl (lt_of0 hx615) fun b617 h => ?_; subst h
           obtain ⟨x618, hx619, hr620⟩ := bd_some hr616
           refine drG 8 mixed (by kernel_rfl) rfl (dt rfl (m1 rfl fin1) (dt rfl (m1 rfl fin1) (dt rfl (iaP U24 Z9 rfl rfl rfl rfl (lt_of hx615) fin1) (dt rfl (ld G9 rfl rfl (sE 2 rfl (fun _ => rfl) hx615) rfl fin1) (dt rfl (m1 rfl fin1) (dt rfl (m1 rfl fin1) (dt rfl (iaP U24 Z9 rfl rfl rfl rfl (lt_of hx619) fin1) (dt rfl (ld G9 rfl rfl (sE 2 rfl (fun _ => rfl) hx619) rfl fin1) (DF.nil fun K621 hF => (eqS rfl rfl rfl (on ?_)))))))))))
           refine ci rfl (fun hc625 => ?_) (fun hc625 => ?_)
           ·have hr626 := if_p hc625 hr620
            refine sq (rg (a1 rfl (on (rt_ ?_))))
            cases hr626
            obtain rfl := Fin.out hz596
            cases hr592
            obtain rfl := Fin.out hz548
            cases hr544
            intro a w hS hA
            refine ret1 hA rfl rfl ?_
            exact ⟨rfl, hS.ext⟩
           ·have hr627 := if_n hc625 hr620
            refine sk (rg (m1 rfl ?_))
            obtain ⟨hk628, hr629⟩ := chk_some hr627
            refine adI rfl rfl rfl hk628 (a1 rfl (on ?_))
            cases hr629
            intro a w hS hA
            exact ⟨_, hz596, hS.selH [1, 2] rfl, hA.cut ⟨rfl, rfl, rfl, tv⟩⟩
          ·have hr630 := if_n hc601 hr595
           refine xt rfl ?_
           cases hr630
           obtain rfl := Fin.out hz596
           intro a w hS hA
           exact ⟨_, rfl, hS, hA.cut ⟨rfl, rfl, tv⟩⟩
        ·rintro a w ⟨t593, rfl, hS, hA⟩
         refine TG.ap ?_ hS hA
         refine rg (m1 rfl (adI rfl rfl rfl (by omega) (a1 rfl (on ?_))))
         cases hr592
         intro a w hS hA
         exact ⟨_, hz548, hS, hA.cut ⟨rfl, rfl, tv⟩⟩
       ·have hr631 := if_n hc553 hr547
        refine xt rfl ?_
        cases hr631
        obtain rfl := Fin.out hz548
        intro a w hS hA
        exact ⟨_, rfl, hS, hA.cut tv⟩
     ·rintro a w ⟨t545, rfl, hS, hA⟩
      refine TG.ap ?_ hS hA
      refine sq (rg (a1 rfl (on (rt_ ?_))))
      cases hr544
      intro a w hS hA
      refine ret1 hA rfl rfl ?_
      exact ⟨rfl, hS.ext⟩

theorem w27 {M : Prop} {W : World} {H : Hp} (hH : H.le (hp W)) {ad_l_0 : Option Addr} {cap_l_0 : Nat} {l_0 : List Swap} (h_l_0 : Sl (Flat encSwap) 3 H ad_l_0 cap_l_0 l_0) {r : Int} (hr : m27 l_0 = some r) : Calls Tryz.prog 27 [.slice ad_l_0 l_0.length cap_l_0].toArray W (RetS M W (.int .i64 r)) := by
 have := h_l_0.len
 unfold m27 at hr
 refine enterG (M := M) Tryz.func27 rfl Tryz.ntmps27 rfl hH ?_
 refine sq (rg (a1 rfl (on (sq (sq (rg (m1 rfl (lnL U27 rfl rfl (gtI rfl rfl rfl (on ?_))))))))))
 refine ci rfl (fun hc4 => ?_) (fun hc4 => ?_)
 ·have hr5 := if_p hc4 hr
  refine sq (rg (a1 rfl (on (rt_ ?_))))
  cases hr5
  intro a w hS hA
  refine ret1 hA rfl rfl ?_
  exact ⟨rfl, hS.ext⟩
 ·have hr6 := if_n hc4 hr
  refine sk (sq (sq (rg (a1 rfl (on ?_)))))
  obtain ⟨e47, hl48, hr49⟩ := bd_some hr6
  refine jn (fun a w => ∃ t50, e47 = .inl t50 ∧ St M W H [H] [] w ∧ Has [] 45 a []) ?_ ?_
  ·refine bk ?_
   refine lp hl48 (fun s51 a w => St M W H [H] [] w ∧ Has [] 45 a [(0, .slice ad_l_0 l_0.length cap_l_0), (3, .int .i64 (s51 : Int))]) ?_ ?_
   ·exact cu ⟨rfl, rfl, tv⟩
   ·rintro j s51 y54 hr52 hz53 a w ⟨hS, hA⟩
    refine TG.ap ?_ hS hA
    unfold m27_1 at hr52
    refine sq (sq (rg (m1 rfl (m1 rfl (lnL U27 rfl rfl (ltI rfl rfl rfl (on ?_)))))))
    refine ci rfl (fun hc58 => ?_) (fun hc58 => ?_)
    ·have hr59 := if_p hc58 hr52
     refine sk (sq (bk (sq ?_)))
     obtain ⟨t128, hx129, hr130⟩ := bd_some hr59
     refine jn (fun a w => St M W H [H] [] w ∧ Has [] 45 a [(0, .slice ad_l_0 l_0.length cap_l_0), (3, .int .i64 (s51 : Int)), (44, .bool t128)]) ?_ ?_
     ·refine rg (m1 rfl (m1 rfl ?_))
      obtain ⟨x131, hx132, hr133⟩ := bd_some hx129
      obtain ⟨p134, rfl⟩ := h_l_0.adr hx132
      obtain ⟨cs135, hcs136, hq137, hr138⟩ := h_l_0.at hx132
      obtain rfl := hr138
      refine iaP U27 Z48 rfl rfl rfl rfl (lt_of hx132) (fb 0 U48 rfl rfl rfl rfl Z5 (ld G5 rfl rfl ((sS 0 rfl hq137).take 1) rfl (neI rfl rfl rfl (m1 rfl ?_))))
      by_cases hb139 : x131.kind ≠ 1
      ·have hr140 := if_p hb139 hr133
       refine gt hb139 rfl (m1 rfl (gt hb139 rfl (m1 rfl (gt hb139 rfl (iaP U27 Z48 rfl rfl rfl rfl (lt_of hx132) (gt hb139 rfl (fb 0 U48 rfl rfl rfl rfl Z5 (gt hb139 rfl (ld G5 rfl rfl ((sS 0 rfl hq137).take 1) rfl (gt hb139 rfl (neI rfl rfl rfl ?_)))))))))))
       refine pt hb139 rfl rfl (m1 rfl ?_)
       by_cases hb141 : x131.kind ≠ 2
       ·have hr142 := if_p hb141 hr140
        refine gf' hb141 rfl (gf' hb141 rfl (gf' hb141 rfl (gf' hb141 rfl (gf' hb141 rfl (gf' hb141 rfl (gf' hb141 rfl (pt hb141 rfl rfl (m1 rfl (gF rfl rfl rfl rfl (gF rfl rfl rfl rfl (gF rfl rfl rfl rfl ?_)))))))))))
        refine gF rfl rfl rfl rfl (gF rfl rfl rfl rfl (gF rfl rfl rfl rfl (gF rfl rfl rfl rfl (pT rfl rfl rfl rfl (on ?_)))))
        cases hr142
        exact cu ⟨rfl, rfl, rfl, tv⟩
       ·have hr143 := if_n hb141 hr140
        refine gt' hb141 rfl (m1 rfl (gt' hb141 rfl (m1 rfl (gt' hb141 rfl (iaP U27 Z48 rfl rfl rfl rfl (lt_of hx132) (gt' hb141 rfl (fb 1 U48 rfl rfl rfl rfl Z3 (gt' hb141 rfl (ld G3 rfl rfl (((sS 0 rfl hq137).drop 1).take 1) rfl (gt' hb141 rfl ?_))))))))))
        obtain ⟨r144, hx145, hr146⟩ := bd_some hr143
        refine clS C28 rfl rfl rfl rfl (fun w H hH le => w28 x131.old_ 0 999999999 hx145) (gt' hb141 rfl (nt rfl rfl (pf hb141 rfl rfl (m1 rfl ?_))))
        rcases Bool.eq_false_or_eq_true (r144) with hb147 | hb147
        ·have hr148 := if_p hb147 hr146
         refine gN rfl rfl (congrArg not (hb147)) (m1 rfl (gN rfl rfl (congrArg not (hb147)) (m1 rfl (gN rfl rfl (congrArg not (hb147)) (iaP U27 Z48 rfl rfl rfl rfl (lt_of hx132) (gN rfl rfl (congrArg not (hb147)) (fb 2 U48 rfl rfl rfl rfl Z3 (gN rfl rfl (congrArg not (hb147)) (ld G3 rfl rfl ((sS 0 rfl hq137).drop 2) rfl (gN rfl rfl (congrArg not (hb147)) ?_))))))))))
         obtain ⟨r149, hx150, hr151⟩ := bd_some hr148
         refine clS C28 rfl rfl rfl rfl (fun w H hH le => w28 x131.new_ 0 999999999 hx150) (gN rfl rfl (congrArg not (hb147)) (nt rfl rfl (pF rfl rfl (congrArg not (hb147)) rfl (on ?_))))
         cases hr151
         exact cu ⟨rfl, rfl, rfl, tv⟩
        ·have hr152 := if_f hb147 hr146
         refine gF rfl rfl (congrArg not (hb147)) rfl (gF rfl rfl (congrArg not (hb147)) rfl (gF rfl rfl (congrArg not (hb147)) rfl (gF rfl rfl (congrArg not (hb147)) rfl (gF rfl rfl (congrArg not (hb147)) rfl (gF rfl rfl (congrArg not (hb147)) rfl (gF rfl rfl (congrArg not (hb147)) rfl (pT rfl rfl (congrArg not (hb147)) rfl (on ?_))))))))
         cases hr152
         exact cu ⟨rfl, rfl, rfl, tv⟩
      ·have hr153 := if_n hb139 hr133
       refine gf hb139 rfl (gf hb139 rfl (gf hb139 rfl (gf hb139 rfl (gf hb139 rfl (gf hb139 rfl (pf hb139 rfl rfl (m1 rfl (gN rfl rfl rfl (m1 rfl (gN rfl rfl rfl (m1 rfl ?_)))))))))))
       refine gN rfl rfl rfl (iaP U27 Z48 rfl rfl rfl rfl (lt_of hx132) (gN rfl rfl rfl (fb 1 U48 rfl rfl rfl rfl Z3 (gN rfl rfl rfl (ld G3 rfl rfl (((sS 0 rfl hq137).drop 1).take 1) rfl (gN rfl rfl rfl ?_))))))
       obtain ⟨r154, hx155, hr156⟩ := bd_some hr153
       refine clS C28 rfl rfl rfl rfl (fun w H hH le => w28 x131.old_ 0 999999999 hx155) (gN rfl rfl rfl (nt rfl rfl (pF rfl rfl rfl rfl (m1 rfl ?_))))
       rcases Bool.eq_false_or_eq_true (r154) with hb157 | hb157
       ·have hr158 := if_p hb157 hr156
        refine gN rfl rfl (congrArg not (hb157)) (m1 rfl (gN rfl rfl (congrArg not (hb157)) (m1 rfl (gN rfl rfl (congrArg not (hb157)) (iaP U27 Z48 rfl rfl rfl rfl (lt_of hx132) (gN rfl rfl (congrArg not (hb157)) (fb 2 U48 rfl rfl rfl rfl Z3 (gN rfl rfl (congrArg not (hb157)) (ld G3 rfl rfl ((sS 0 rfl hq137).drop 2) rfl (gN rfl rfl (congrArg not (hb157)) ?_))))))))))
        obtain ⟨r159, hx160, hr161⟩ := bd_some hr158
        refine clS C28 rfl rfl rfl rfl (fun w H hH le => w28 x131.new_ 0 999999999 hx160) (gN rfl rfl (congrArg not (hb157)) (nt rfl rfl (pF rfl rfl (congrArg not (hb157)) rfl (on ?_))))
        cases hr161
        exact cu ⟨rfl, rfl, rfl, tv⟩
       ·have hr162 := if_f hb157 hr156
        refine gF rfl rfl (congrArg not (hb157)) rfl (gF rfl rfl (congrArg not (hb157)) rfl (gF rfl rfl (congrArg not (hb157)) rfl (gF rfl rfl (congrArg not (hb157)) rfl (gF rfl rfl (congrArg not (hb157)) rfl (gF rfl rfl (congrArg not (hb157)) rfl (gF rfl rfl (congrArg not (hb157)) rfl (pT rfl rfl (congrArg not (hb157)) rfl (on ?_))))))))
        cases hr162
        exact cu ⟨rfl, rfl, rfl, tv⟩
     ·rintro a w ⟨hS, hA⟩
      refine TG.ap ?_ hS hA
      refine cb rfl (fun hc166 => ?_) (fun hc166 => ?_)
      ·have hr167 := if_p hc166 hr130
       refine sq (rg (a1 rfl (on (rt_ ?_))))
       cases hr167
       obtain rfl := Fin.out hz53
       cases hr49
       intro a w hS hA
       refine ret1 hA rfl rfl ?_
       exact ⟨rfl, hS.ext⟩
      ·have hr168 := if_f hc166 hr130
       refine sk (rg (m1 rfl (adI rfl rfl rfl (by omega) (a1 rfl (on ?_)))))
       cases hr168
       intro a w hS hA
       exact ⟨_, hz53, hS, hA.cut ⟨rfl, rfl, tv⟩⟩
    ·have hr169 := if_n hc58 hr52
     refine xt rfl ?_
     cases hr169
     obtain rfl := Fin.out hz53
     intro a w hS hA
     exact ⟨_, rfl, hS, hA.cut tv⟩
  ·rintro a w ⟨t50, rfl, hS, hA⟩
   refine TG.ap ?_ hS hA
   refine sq (rg (a1 rfl (on (rt_ ?_))))
   cases hr49
   intro a w hS hA
   refine ret1 hA rfl rfl ?_
   exact ⟨rfl, hS.ext⟩

theorem w22 {M : Prop} {W : World} {H : Hp} (hH : H.le (hp W)) {cs_l_0 : List Value} (l_0 : Lexicon) (h_l_0 : (RLexicon) H cs_l_0 l_0) {ad_swaps : Option Addr} {cap_swaps : Nat} {swaps : List Swap} (h_swaps : Sl (Flat encSwap) 3 H ad_swaps cap_swaps swaps) {r : Int} (hr : m22 l_0 swaps = some r) : Calls Tryz.prog 22 [.agg cs_l_0.toArray, .slice ad_swaps swaps.length cap_swaps].toArray W (RetS M W (.int .i64 r)) := by
 have hh_l_0 := h_l_0
 obtain ⟨ad1, cap2, ad4, cap5, ad7, cap8, rfl, hl3, hl6, hl9⟩ := h_l_0
 have := hl3.len
 have := hl6.len
 have := hl9.len
 have := h_swaps.len
 unfold m22 at hr
 refine enterG (M := M) Tryz.func22 rfl Tryz.ntmps22 rfl hH ?_
 refine sq (rg (bI (cs := [.slice ad1 l_0.numbers.length cap2, .slice ad4 l_0.names.length cap5, .slice ad7 l_0.nots.length cap8]) rfl rfl rfl fun q10 K11 hK12 => (a1 rfl (on (sq (sq (rg (ldA G26 Z26 rfl rfl (sS 0 rfl hK12) rfl ?_))))))))
 obtain ⟨r13, hx14, hr15⟩ := bd_some hr
 refine clS C34 rfl rfl rfl rfl (fun w H hH le => w34 hH l_0 (RLexicon.mono _ _ _ _ (le.at 1 rfl) hh_l_0) hx14) (a1 rfl (on (sq (rg (m1 rfl (neI rfl rfl rfl (on ?_)))))))
 refine ci rfl (fun hc19 => ?_) (fun hc19 => ?_)
 ·have hr20 := if_p hc19 hr15
  refine sq (rg (m1 rfl (a1 rfl (on (rt_ ?_)))))
  cases hr20
  intro a w hS hA
  refine ret1 hA rfl rfl ?_
  exact ⟨rfl, hS.ext⟩
 ·have hr21 := if_n hc19 hr15
  refine sk (sq (rg (m1 rfl ?_)))
  obtain ⟨r22, hx23, hr24⟩ := bd_some hr21
  refine clS C27 rfl rfl rfl rfl (fun w H hH le => w27 hH (h_swaps.mono (Flat.mono _) (le.at 1 rfl)) hx23) (a1 rfl (on (rt_ ?_)))
  cases hr24
  intro a w hS hA
  refine ret1 hA rfl rfl ?_
  exact ⟨rfl, hS.ext⟩

theorem w35 {M : Prop} {W : World} {H : Hp} (hH : H.le (hp W)) {cs_r_0 : List Value} (r_0 : Report) (h_r_0 : (RReport) H cs_r_0 r_0) {ad_requests : Option Addr} {cap_requests : Nat} {requests : List Request} (h_requests : Sl (RRequest) 5 H ad_requests cap_requests requests) {r : Bool} (hr : m35 r_0 requests = some r) : Calls Tryz.prog 35 [.agg cs_r_0.toArray, .slice ad_requests requests.length cap_requests].toArray W (RetS M W (.bool r)) := by
 have hh_r_0 := h_r_0
 obtain ⟨ad1, cap2, rfl, hl3⟩ := h_r_0
 have := hl3.len
 have := h_requests.len
 unfold m35 at hr
 refine enterG (M := M) Tryz.func35 rfl Tryz.ntmps35 rfl hH ?_
 refine sq (rg (bI (cs := [.slice ad1 r_0.words.length cap2, .int .i64 r_0.out, .int .i64 r_0.within]) rfl rfl rfl fun q4 K5 hK6 => (a1 rfl (on (sq (sq (rg (a1 rfl (on ?_)))))))))
 obtain ⟨e28, hl29, hr30⟩ := bd_some hr
 refine jn (fun a w => ∃ t31, e28 = .inl t31 ∧ St M W H [K5, H] [] w ∧ Has [] 52 a [(1, .slice ad_requests requests.length cap_requests), (2, .pointer (some q4))]) ?_ ?_
 ·refine bk ?_
  refine lp hl29 (fun s32 a w => St M W H [K5, H] [] w ∧ Has [] 52 a [(1, .slice ad_requests requests.length cap_requests), (2, .pointer (some q4)), (5, .int .i64 (s32 : Int))]) ?_ ?_
  ·exact cu ⟨rfl, rfl, rfl, tv⟩
  ·rintro j s32 y35 hr33 hz34 a w ⟨hS, hA⟩
   refine TG.ap ?_ hS hA
   unfold m35_1 at hr33
   refine sq (sq ?_)
   obtain ⟨t39, hx40, hr41⟩ := bd_some hr33
   refine jn (fun a w => St M W H [K5, H] [] w ∧ Has [] 52 a [(1, .slice ad_requests requests.length cap_requests), (2, .pointer (some q4)), (5, .int .i64 (s32 : Int)), (15, .bool t39)]) ?_ ?_
   ·refine rg (m1 rfl (fb 0 U68 rfl rfl rfl rfl Z66 (ld G66 rfl rfl ((sS 0 rfl hK6).take 1) rfl (lnL U66 rfl rfl (ltI rfl rfl rfl (m1 rfl ?_))))))
    by_cases hb42 : (s32 : Int) < (r_0.words.length : Int)
    ·have hr43 := if_p hb42 hx40
     refine gt hb42 rfl (m1 rfl (gt hb42 rfl (ltI rfl rfl rfl (pt hb42 rfl rfl (on ?_)))))
     cases hr43
     exact cu ⟨rfl, rfl, rfl, rfl, tv⟩
    ·have hr44 := if_n hb42 hx40
     refine gf hb42 rfl (gf hb42 rfl (pf hb42 rfl rfl (on ?_)))
     cases hr44
     exact cu ⟨rfl, rfl, rfl, rfl, tv⟩
   ·rintro a w ⟨hS, hA⟩
    refine TG.ap ?_ hS hA
    refine cb rfl (fun hc48 => ?_) (fun hc48 => ?_)
    ·have hr49 := if_p hc48 hr41
     refine sk (sq (bk (sq (rg (fb 0 U68 rfl rfl rfl rfl Z66 (ld G66 rfl rfl ((sS 0 rfl hK6).take 1) rfl (m1 rfl ?_)))))))
     obtain ⟨x61, hx62, hr63⟩ := bd_some hr49
     obtain ⟨p64, rfl⟩ := hl3.adr hx62
     obtain ⟨cs65, hcs66, hq67, hr68⟩ := hl3.at hx62
     obtain rfl := hr68
     refine iaP U66 Z74 rfl rfl rfl rfl (lt_of hx62) (fb 0 U74 rfl rfl rfl rfl Z9 (ld G9 rfl rfl ((sS 1 rfl hq67).take 1) rfl (lnS U9 rfl rfl (gtI rfl rfl rfl (on ?_)))))
     refine ci rfl (fun hc72 => ?_) (fun hc72 => ?_)
     ·have hr73 := if_p hc72 hr63
      refine sq (rg (a1 rfl (on (rt_ ?_))))
      cases hr73
      obtain rfl := Fin.out hz34
      cases hr30
      intro a w hS hA
      refine ret1 hA rfl rfl ?_
      exact ⟨rfl, hS.ext⟩
     ·have hr74 := if_n hc72 hr63
      refine sk (rg (m1 rfl ?_))
      obtain ⟨hk75, hr76⟩ := chk_some hr74
      refine adI rfl rfl rfl hk75 (a1 rfl (on ?_))
      cases hr76
      intro a w hS hA
      exact ⟨_, hz34, hS, hA.cut ⟨rfl, rfl, rfl, tv⟩⟩
    ·have hr77 := if_f hc48 hr41
     refine xt rfl ?_
     cases hr77
     obtain rfl := Fin.out hz34
     intro a w hS hA
     exact ⟨_, rfl, hS, hA.cut ⟨rfl, rfl, tv⟩⟩
 ·rintro a w ⟨t31, rfl, hS, hA⟩
  refine TG.ap ?_ hS hA
  refine sq (sq (rg (a1 rfl (on ?_))))
  obtain ⟨e106, hl107, hr108⟩ := bd_some hr30
  refine jn (fun a w => ∃ t109, e106 = .inl t109 ∧ St M W H [K5, H] [] w ∧ Has [] 52 a [(1, .slice ad_requests requests.length cap_requests), (2, .pointer (some q4))]) ?_ ?_
  ·refine bk ?_
   refine lp hl107 (fun s110 a w => St M W H [K5, H] [] w ∧ Has [] 52 a [(1, .slice ad_requests requests.length cap_requests), (2, .pointer (some q4)), (6, .int .i64 (s110 : Int))]) ?_ ?_
   ·exact cu ⟨rfl, rfl, rfl, tv⟩
   ·rintro j s110 y113 hr111 hz112 a w ⟨hS, hA⟩
    refine TG.ap ?_ hS hA
    unfold m35_2 at hr111
    refine sq (sq ?_)
    obtain ⟨t117, hx118, hr119⟩ := bd_some hr111
    refine jn (fun a w => St M W H [K5, H] [] w ∧ Has [] 52 a [(1, .slice ad_requests requests.length cap_requests), (2, .pointer (some q4)), (6, .int .i64 (s110 : Int)), (33, .bool t117)]) ?_ ?_
    ·refine rg (m1 rfl (m1 rfl (lnL U69 rfl rfl (ltI rfl rfl rfl (m1 rfl ?_)))))
     by_cases hb120 : (s110 : Int) < (requests.length : Int)
     ·have hr121 := if_p hb120 hx118
      refine gt hb120 rfl (m1 rfl (gt hb120 rfl (ltI rfl rfl rfl (pt hb120 rfl rfl (on ?_)))))
      cases hr121
      exact cu ⟨rfl, rfl, rfl, rfl, tv⟩
     ·have hr122 := if_n hb120 hx118
      refine gf hb120 rfl (gf hb120 rfl (pf hb120 rfl rfl (on ?_)))
      cases hr122
      exact cu ⟨rfl, rfl, rfl, rfl, tv⟩
    ·rintro a w ⟨hS, hA⟩
     refine TG.ap ?_ hS hA
     refine cb rfl (fun hc126 => ?_) (fun hc126 => ?_)
     ·have hr127 := if_p hc126 hr119
      refine sk (sq (bk (sq (rg (m1 rfl (m1 rfl ?_))))))
      obtain ⟨x146, hx147, hr148⟩ := bd_some hr127
      obtain ⟨p149, rfl⟩ := h_requests.adr hx147
      obtain ⟨cs150, hcs151, hq152, hr153⟩ := h_requests.at hx147
      have hr154 := hr153
      obtain ⟨ad155, cap156, rfl, hl157⟩ := hr153
      have := hl157.len
      refine iaP U69 Z73 rfl rfl rfl rfl (lt_of hx147) (fb 4 U73 rfl rfl rfl rfl Z24 (ld G24 rfl rfl ((sS 1 rfl hq152).drop 4) rfl ?_))
      obtain ⟨r158, hx159, hr160⟩ := bd_some hr148
      refine clS C16 rfl rfl rfl rfl (fun w H hH le => w16 hH (hl157.mono (Flat.mono _) (le.at 1 rfl)) 12 hx159) (nt rfl rfl (on ?_))
      refine cb rfl (fun hc164 => ?_) (fun hc164 => ?_)
      ·replace hc164 := nbt hc164
       have hr165 := if_f hc164 hr160
       refine sq (rg (a1 rfl (on (rt_ ?_))))
       cases hr165
       obtain rfl := Fin.out hz112
       cases hr108
       intro a w hS hA
       refine ret1 hA rfl rfl ?_
       exact ⟨rfl, hS.ext⟩
      ·replace hc164 := nbf hc164
       have hr166 := if_p hc164 hr160
       refine sk (rg (m1 rfl ?_))
       obtain ⟨hk167, hr168⟩ := chk_some hr166
       refine adI rfl rfl rfl hk167 (a1 rfl (on ?_))
       cases hr168
       intro a w hS hA
       exact ⟨_, hz112, hS, hA.cut ⟨rfl, rfl, rfl, tv⟩⟩
     ·have hr169 := if_f hc126 hr119
      refine xt rfl ?_
      cases hr169
      obtain rfl := Fin.out hz112
      intro a w hS hA
      exact ⟨_, rfl, hS, hA.cut ⟨rfl, rfl, tv⟩⟩
  ·rintro a w ⟨t109, rfl, hS, hA⟩
   refine TG.ap ?_ hS hA
   refine sq ?_
   obtain ⟨t173, hx174, hr175⟩ := bd_some hr108
   refine jn (fun a w => St M W H [K5, H] [] w ∧ Has [] 52 a [(4, .bool t173)]) ?_ ?_
   ·refine rg (fb 0 U68 rfl rfl rfl rfl Z66 (ld G66 rfl rfl ((sS 0 rfl hK6).take 1) rfl (lnL U66 rfl rfl (leI rfl rfl rfl (m1 rfl ?_)))))
    by_cases hb176 : (r_0.words.length : Int) ≤ 85
    ·have hr177 := if_p hb176 hx174
     refine gt hb176 rfl (m1 rfl (gt hb176 rfl (lnL U69 rfl rfl (gt hb176 rfl (leI rfl rfl rfl (pt hb176 rfl rfl (a1 rfl (on ?_))))))))
     cases hr177
     exact cu ⟨rfl, tv⟩
    ·have hr178 := if_n hb176 hx174
     refine gf hb176 rfl (gf hb176 rfl (gf hb176 rfl (pf hb176 rfl rfl (a1 rfl (on ?_)))))
     cases hr178
     exact cu ⟨rfl, tv⟩
   ·rintro a w ⟨hS, hA⟩
    refine TG.ap ?_ hS hA
    refine rt_ ?_
    cases hr175
    intro a w hS hA
    refine ret1 hA rfl rfl ?_
    exact ⟨rfl, hS.ext⟩

theorem w37 {M : Prop} {W : World} {H : Hp} (hH : H.le (hp W)) {cs_r_0 : List Value} (r_0 : Report) (h_r_0 : (RReport) H cs_r_0 r_0) {r : Bool} (hr : m37 r_0 = some r) : Calls Tryz.prog 37 [.agg cs_r_0.toArray].toArray W (RetS M W (.bool r)) := by
 have hh_r_0 := h_r_0
 obtain ⟨ad1, cap2, rfl, hl3⟩ := h_r_0
 have := hl3.len
 unfold m37 at hr
 refine enterG (M := M) Tryz.func37 rfl Tryz.ntmps37 rfl hH ?_
 refine sq (rg (bI (cs := [.slice ad1 r_0.words.length cap2, .int .i64 r_0.out, .int .i64 r_0.within]) rfl rfl rfl fun q4 K5 hK6 => (a1 rfl (on (sq (sq (rg (a1 rfl (on ?_)))))))))
 obtain ⟨e32, hl33, hr34⟩ := bd_some hr
 refine jn (fun a w => ∃ t35, e32 = .inl t35 ∧ St M W H [K5, H] [] w ∧ Has [] 43 a [(1, .pointer (some q4))]) ?_ ?_
 ·refine bk ?_
  refine lp hl33 (fun s36 a w => St M W H [K5, H] [] w ∧ Has [] 43 a [(1, .pointer (some q4)), (3, .int .i64 (s36 : Int))]) ?_ ?_
  ·exact cu ⟨rfl, rfl, tv⟩
  ·rintro j s36 y39 hr37 hz38 a w ⟨hS, hA⟩
   refine TG.ap ?_ hS hA
   unfold m37_1 at hr37
   refine sq (sq (rg (m1 rfl (fb 0 U68 rfl rfl rfl rfl Z66 (ld G66 rfl rfl ((sS 0 rfl hK6).take 1) rfl (lnL U66 rfl rfl (ltI rfl rfl rfl (on ?_))))))))
   refine ci rfl (fun hc43 => ?_) (fun hc43 => ?_)
   ·have hr44 := if_p hc43 hr37
    refine sk (sq (bk (sq ?_)))
    obtain ⟨t83, hx84, hr85⟩ := bd_some hr44
    refine jn (fun a w => St M W H [K5, H] [] w ∧ Has [] 43 a [(1, .pointer (some q4)), (3, .int .i64 (s36 : Int)), (28, .bool t83)]) ?_ ?_
    ·refine rg (fb 0 U68 rfl rfl rfl rfl Z66 (ld G66 rfl rfl ((sS 0 rfl hK6).take 1) rfl (m1 rfl ?_)))
     obtain ⟨x86, hx87, hr88⟩ := bd_some hx84
     obtain ⟨p89, rfl⟩ := hl3.adr hx87
     obtain ⟨cs90, hcs91, hq92, hr93⟩ := hl3.at hx87
     obtain rfl := hr93
     refine iaP U66 Z74 rfl rfl rfl rfl (lt_of hx87) (fb 0 U74 rfl rfl rfl rfl Z9 (ld G9 rfl rfl ((sS 1 rfl hq92).take 1) rfl ?_))
     obtain ⟨r94, hx95, hr96⟩ := bd_some hr88
     refine clS C60 rfl rfl rfl rfl (fun w H hH le => w60 x86.text hx95) (nt rfl rfl (m1 rfl ?_))
     rcases Bool.eq_false_or_eq_true (r94) with hb97 | hb97
     ·have hr98 := if_p hb97 hr96
      refine gN rfl rfl (congrArg not (hb97)) (fb 0 U68 rfl rfl rfl rfl Z66 (gN rfl rfl (congrArg not (hb97)) (ld G66 rfl rfl ((sS 0 rfl hK6).take 1) rfl (gN rfl rfl (congrArg not (hb97)) (m1 rfl (gN rfl rfl (congrArg not (hb97)) (iaP U66 Z74 rfl rfl rfl rfl (lt_of hx87) (gN rfl rfl (congrArg not (hb97)) (fb 1 U74 rfl rfl rfl rfl Z3 (gN rfl rfl (congrArg not (hb97)) (ld G3 rfl rfl ((sS 1 rfl hq92).drop 1) rfl ?_)))))))))))
      refine gN rfl rfl (congrArg not (hb97)) ?_
      obtain ⟨r99, hx100, hr101⟩ := bd_some hr98
      refine clS C28 rfl rfl rfl rfl (fun w H hH le => w28 x86.speaker 0 999 hx100) (gN rfl rfl (congrArg not (hb97)) (nt rfl rfl (pF rfl rfl (congrArg not (hb97)) rfl (on ?_))))
      cases hr101
      exact cu ⟨rfl, rfl, rfl, tv⟩
     ·have hr102 := if_f hb97 hr96
      refine gF rfl rfl (congrArg not (hb97)) rfl (gF rfl rfl (congrArg not (hb97)) rfl (gF rfl rfl (congrArg not (hb97)) rfl (gF rfl rfl (congrArg not (hb97)) rfl (gF rfl rfl (congrArg not (hb97)) rfl (gF rfl rfl (congrArg not (hb97)) rfl (gF rfl rfl (congrArg not (hb97)) rfl (gF rfl rfl (congrArg not (hb97)) rfl (pT rfl rfl (congrArg not (hb97)) rfl (on ?_)))))))))
      cases hr102
      exact cu ⟨rfl, rfl, rfl, tv⟩
    ·rintro a w ⟨hS, hA⟩
     refine TG.ap ?_ hS hA
     refine cb rfl (fun hc106 => ?_) (fun hc106 => ?_)
     ·have hr107 := if_p hc106 hr85
      refine sq (rg (a1 rfl (on (rt_ ?_))))
      cases hr107
      obtain rfl := Fin.out hz38
      cases hr34
      intro a w hS hA
      refine ret1 hA rfl rfl ?_
      exact ⟨rfl, hS.ext⟩
     ·have hr108 := if_f hc106 hr85
      refine sk (rg (m1 rfl (adI rfl rfl rfl (by omega) (a1 rfl (on ?_)))))
      cases hr108
      intro a w hS hA
      exact ⟨_, hz38, hS, hA.cut ⟨rfl, rfl, tv⟩⟩
   ·have hr109 := if_n hc43 hr37
    refine xt rfl ?_
    cases hr109
    obtain rfl := Fin.out hz38
    intro a w hS hA
    exact ⟨_, rfl, hS, hA.cut ⟨rfl, tv⟩⟩
 ·rintro a w ⟨t35, rfl, hS, hA⟩
  refine TG.ap ?_ hS hA
  refine sq ?_
  obtain ⟨t122, hx123, hr124⟩ := bd_some hr34
  refine jn (fun a w => St M W H [K5, H] [] w ∧ Has [] 43 a [(2, .bool t122)]) ?_ ?_
  ·refine rg (fb 0 U68 rfl rfl rfl rfl Z66 (ld G66 rfl rfl ((sS 0 rfl hK6).take 1) rfl (lnL U66 rfl rfl (leI rfl rfl rfl (m1 rfl ?_)))))
   by_cases hb125 : (r_0.words.length : Int) ≤ 80
   ·have hr126 := if_p hb125 hx123
    refine gt hb125 rfl (fb 1 U68 rfl rfl rfl rfl Z3 (gt hb125 rfl (ld G3 rfl rfl (((sS 0 rfl hK6).drop 1).take 1) rfl (gt hb125 rfl ?_))))
    obtain ⟨r127, hx128, hr129⟩ := bd_some hr126
    refine clS C28 rfl rfl rfl rfl (fun w H hH le => w28 r_0.out 0 100000 hx128) (pt hb125 rfl rfl (m1 rfl ?_))
    rcases Bool.eq_false_or_eq_true (r127) with hb130 | hb130
    ·have hr131 := if_p hb130 hr129
     refine gN rfl rfl (hb130) (fb 2 U68 rfl rfl rfl rfl Z3 (gN rfl rfl (hb130) (ld G3 rfl rfl ((sS 0 rfl hK6).drop 2) rfl (gN rfl rfl (hb130) ?_))))
     obtain ⟨r132, hx133, hr134⟩ := bd_some hr131
     refine clS C28 rfl rfl rfl rfl (fun w H hH le => w28 r_0.within 0 100000 hx133) (pT rfl rfl (hb130) rfl (a1 rfl (on ?_)))
     cases hr134
     exact cu ⟨rfl, tv⟩
    ·have hr135 := if_f hb130 hr129
     refine gF rfl rfl (hb130) rfl (gF rfl rfl (hb130) rfl (gF rfl rfl (hb130) rfl (pF rfl rfl (hb130) rfl (a1 rfl (on ?_)))))
     cases hr135
     exact cu ⟨rfl, tv⟩
   ·have hr136 := if_n hb125 hx123
    refine gf hb125 rfl (gf hb125 rfl (gf hb125 rfl (pf hb125 rfl rfl (m1 rfl (gF rfl rfl rfl rfl (gF rfl rfl rfl rfl (gF rfl rfl rfl rfl (pF rfl rfl rfl rfl (a1 rfl (on ?_))))))))))
    cases hr136
    exact cu ⟨rfl, tv⟩
  ·rintro a w ⟨hS, hA⟩
   refine TG.ap ?_ hS hA
   refine rt_ ?_
   cases hr124
   intro a w hS hA
   refine ret1 hA rfl rfl ?_
   exact ⟨rfl, hS.ext⟩

theorem w38 {M : Prop} {W : World} {H : Hp} (hH : H.le (hp W)) {cs_l_0 : List Value} (l_0 : Lexicon) (h_l_0 : (RLexicon) H cs_l_0 l_0) {ad_swaps : Option Addr} {cap_swaps : Nat} {swaps : List Swap} (h_swaps : Sl (Flat encSwap) 3 H ad_swaps cap_swaps swaps) {cs_r_2 : List Value} (r_2 : Report) (h_r_2 : (RReport) H cs_r_2 r_2) {ad_requests : Option Addr} {cap_requests : Nat} {requests : List Request} (h_requests : Sl (RRequest) 5 H ad_requests cap_requests requests) {r : Int} (hr : m38 l_0 swaps r_2 requests = some r) : Calls Tryz.prog 38 [.agg cs_l_0.toArray, .slice ad_swaps swaps.length cap_swaps, .agg cs_r_2.toArray, .slice ad_requests requests.length cap_requests].toArray W (RetS M W (.int .i64 r)) := by
 have hh_l_0 := h_l_0
 obtain ⟨ad1, cap2, ad4, cap5, ad7, cap8, rfl, hl3, hl6, hl9⟩ := h_l_0
 have := hl3.len
 have := hl6.len
 have := hl9.len
 have := h_swaps.len
 have hh_r_2 := h_r_2
 obtain ⟨ad10, cap11, rfl, hl12⟩ := h_r_2
 have := hl12.len
 have := h_requests.len
 unfold m38 at hr
 refine enterG (M := M) Tryz.func38 rfl Tryz.ntmps38 rfl hH ?_
 refine sq (rg (bI (cs := [.slice ad1 l_0.numbers.length cap2, .slice ad4 l_0.names.length cap5, .slice ad7 l_0.nots.length cap8]) rfl rfl rfl fun q13 K14 hK15 => (bI (cs := [.slice ad10 r_2.words.length cap11, .int .i64 r_2.out, .int .i64 r_2.within]) rfl rfl rfl fun q16 K17 hK18 => (a1 rfl (on (sq (sq (rg (ldA G26 Z26 rfl rfl (sS 1 rfl hK15) rfl (m1 rfl ?_))))))))))
 obtain ⟨r19, hx20, hr21⟩ := bd_some hr
 refine clS C22 rfl rfl rfl rfl (fun w H hH le => w22 hH l_0 (RLexicon.mono _ _ _ _ (le.at 2 rfl) hh_l_0) (h_swaps.mono (Flat.mono _) (le.at 2 rfl)) hx20) (a1 rfl (on (sq (rg (m1 rfl (neI rfl rfl rfl (on ?_)))))))
 refine ci rfl (fun hc25 => ?_) (fun hc25 => ?_)
 ·have hr26 := if_p hc25 hr21
  refine sq (rg (m1 rfl (a1 rfl (on (rt_ ?_)))))
  cases hr26
  intro a w hS hA
  refine ret1 hA rfl rfl ?_
  exact ⟨rfl, hS.ext⟩
 ·have hr27 := if_n hc25 hr21
  refine sk (sq (sq (rg (ldA G68 Z68 rfl rfl (sS 0 rfl hK18) rfl ?_))))
  obtain ⟨r28, hx29, hr30⟩ := bd_some hr27
  refine clS C37 rfl rfl rfl rfl (fun w H hH le => w37 hH r_2 (RReport.mono _ _ _ _ (le.at 2 rfl) hh_r_2) hx29) (nt rfl rfl (on ?_))
  refine cb rfl (fun hc34 => ?_) (fun hc34 => ?_)
  ·replace hc34 := nbt hc34
   have hr35 := if_f hc34 hr30
   refine sq (rg (a1 rfl (on (rt_ ?_))))
   cases hr35
   intro a w hS hA
   refine ret1 hA rfl rfl ?_
   exact ⟨rfl, hS.ext⟩
  ·replace hc34 := nbf hc34
   have hr36 := if_p hc34 hr30
   refine sk (sq (sq (rg (m1 rfl (lnL U69 rfl rfl (gtI rfl rfl rfl (on ?_)))))))
   refine ci rfl (fun hc40 => ?_) (fun hc40 => ?_)
   ·have hr41 := if_p hc40 hr36
    refine sq (rg (a1 rfl (on (rt_ ?_))))
    cases hr41
    intro a w hS hA
    refine ret1 hA rfl rfl ?_
    exact ⟨rfl, hS.ext⟩
   ·have hr42 := if_n hc40 hr36
    refine sk (sq (rg (a1 rfl (on (rt_ ?_)))))
    cases hr42
    intro a w hS hA
    refine ret1 hA rfl rfl ?_
    exact ⟨rfl, hS.ext⟩

theorem w30 {M : Prop} {W : World} {H : Hp} (hH : H.le (hp W)) {cs_l_0 : List Value} (l_0 : Lexicon) (h_l_0 : (RLexicon) H cs_l_0 l_0) {ad_swaps : Option Addr} {cap_swaps : Nat} {swaps : List Swap} (h_swaps : Sl (Flat encSwap) 3 H ad_swaps cap_swaps swaps) {cs_r_2 : List Value} (r_2 : Report) (h_r_2 : (RReport) H cs_r_2 r_2) {ad_requests : Option Addr} {cap_requests : Nat} {requests : List Request} (h_requests : Sl (RRequest) 5 H ad_requests cap_requests requests) {r : Bool} (hr : m30 l_0 swaps r_2 requests = some r) : Calls Tryz.prog 30 [.agg cs_l_0.toArray, .slice ad_swaps swaps.length cap_swaps, .agg cs_r_2.toArray, .slice ad_requests requests.length cap_requests].toArray W (RetS M W (.bool r)) := by
 have hh_l_0 := h_l_0
 obtain ⟨ad1, cap2, ad4, cap5, ad7, cap8, rfl, hl3, hl6, hl9⟩ := h_l_0
 have := hl3.len
 have := hl6.len
 have := hl9.len
 have := h_swaps.len
 have hh_r_2 := h_r_2
 obtain ⟨ad10, cap11, rfl, hl12⟩ := h_r_2
 have := hl12.len
 have := h_requests.len
 unfold m30 at hr
 refine enterG (M := M) Tryz.func30 rfl Tryz.ntmps30 rfl hH ?_
 refine sq (rg (bI (cs := [.slice ad1 l_0.numbers.length cap2, .slice ad4 l_0.names.length cap5, .slice ad7 l_0.nots.length cap8]) rfl rfl rfl fun q13 K14 hK15 => (bI (cs := [.slice ad10 r_2.words.length cap11, .int .i64 r_2.out, .int .i64 r_2.within]) rfl rfl rfl fun q16 K17 hK18 => (a1 rfl (on (sq ?_))))))
 obtain ⟨t34, hx35, hr36⟩ := bd_some hr
 refine jn (fun a w => St M W H [K17, K14, H] [] w ∧ Has [] 25 a [(8, .bool t34)]) ?_ ?_
 ·refine rg (ldA G26 Z26 rfl rfl (sS 1 rfl hK15) rfl (m1 rfl ?_))
  obtain ⟨r37, hx38, hr39⟩ := bd_some hx35
  refine clS C15 rfl rfl rfl rfl (fun w H hH le => w15 hH l_0 (RLexicon.mono _ _ _ _ (le.at 2 rfl) hh_l_0) (h_swaps.mono (Flat.mono _) (le.at 2 rfl)) hx38) (m1 rfl ?_)
  rcases Bool.eq_false_or_eq_true (r37) with hb40 | hb40
  ·have hr41 := if_p hb40 hr39
   refine gN rfl rfl (hb40) (ldA G68 Z68 rfl rfl (sS 0 rfl hK18) rfl (gN rfl rfl (hb40) (m1 rfl (gN rfl rfl (hb40) ?_))))
   obtain ⟨r42, hx43, hr44⟩ := bd_some hr41
   refine clS C35 rfl rfl rfl rfl (fun w H hH le => w35 hH r_2 (RReport.mono _ _ _ _ (le.at 2 rfl) hh_r_2) (h_requests.mono (RRequest.mono) (le.at 2 rfl)) hx43) (pT rfl rfl (hb40) rfl (m1 rfl ?_))
   rcases Bool.eq_false_or_eq_true (r42) with hb45 | hb45
   ·have hr46 := if_p hb45 hr44
    refine gN rfl rfl (hb45) (ldA G26 Z26 rfl rfl (sS 1 rfl hK15) rfl (gN rfl rfl (hb45) (m1 rfl (gN rfl rfl (hb45) (ldA G68 Z68 rfl rfl (sS 0 rfl hK18) rfl (gN rfl rfl (hb45) (m1 rfl (gN rfl rfl (hb45) ?_))))))))
    obtain ⟨r47, hx48, hr49⟩ := bd_some hr46
    refine clS C38 rfl rfl rfl rfl (fun w H hH le => w38 hH l_0 (RLexicon.mono _ _ _ _ (le.at 2 rfl) hh_l_0) (h_swaps.mono (Flat.mono _) (le.at 2 rfl)) r_2 (RReport.mono _ _ _ _ (le.at 2 rfl) hh_r_2) (h_requests.mono (RRequest.mono) (le.at 2 rfl)) hx48) (gN rfl rfl (hb45) (eqI rfl rfl rfl (pT rfl rfl (hb45) rfl (a1 rfl (on ?_)))))
    cases hr49
    exact cu ⟨rfl, tv⟩
   ·have hr50 := if_f hb45 hr44
    refine gF rfl rfl (hb45) rfl (gF rfl rfl (hb45) rfl (gF rfl rfl (hb45) rfl (gF rfl rfl (hb45) rfl (gF rfl rfl (hb45) rfl (gF rfl rfl (hb45) rfl (pF rfl rfl (hb45) rfl (a1 rfl (on ?_))))))))
    cases hr50
    exact cu ⟨rfl, tv⟩
  ·have hr51 := if_f hb40 hr39
   refine gF rfl rfl (hb40) rfl (gF rfl rfl (hb40) rfl (gF rfl rfl (hb40) rfl (pF rfl rfl (hb40) rfl (m1 rfl (gF rfl rfl rfl rfl (gF rfl rfl rfl rfl (gF rfl rfl rfl rfl (gF rfl rfl rfl rfl (gF rfl rfl rfl rfl (gF rfl rfl rfl rfl (pF rfl rfl rfl rfl ?_)))))))))))
   refine a1 rfl (on ?_)
   cases hr51
   exact cu ⟨rfl, tv⟩
 ·rintro a w ⟨hS, hA⟩
  refine TG.ap ?_ hS hA
  refine rt_ ?_
  cases hr36
  intro a w hS hA
  refine ret1 hA rfl rfl ?_
  exact ⟨rfl, hS.ext⟩

theorem w31 {M : Prop} {W : World} {H : Hp} (hH : H.le (hp W)) {cs_r_0 : List Value} (r_0 : Report) (h_r_0 : (RReport) H cs_r_0 r_0) {r : Report} (hr : m31 r_0 = some r) : Calls Tryz.prog 31 [.agg cs_r_0.toArray].toArray W (RetK M H W (fun v K => ∃ (cs0 : List Value), v = .agg cs0.toArray ∧ (RReport) K cs0 r)) := by
 have hh_r_0 := h_r_0
 obtain ⟨ad1, cap2, rfl, hl3⟩ := h_r_0
 have := hl3.len
 unfold m31 at hr
 refine enterG (M := M) Tryz.func31 rfl Tryz.ntmps31 rfl hH ?_
 refine sq (rg (bI (cs := [.slice ad1 r_0.words.length cap2, .int .i64 r_0.out, .int .i64 r_0.within]) rfl rfl rfl fun q4 K5 hK6 => (al 1 (cs := [.slice none 0 0, .int .i64 0, .int .i64 0]) Tryz.zeroValue56 rfl rfl fun b7 => (on (sq (rg (fb 1 U68 rfl rfl rfl rfl Z3 (ld G3 rfl rfl (((sS 0 rfl hK6).drop 1).take 1) rfl (fb 2 U68 rfl rfl rfl rfl Z3 (ld G3 rfl rfl ((sS 0 rfl hK6).drop 2) rfl (bu (cs := [.slice none 0 0, .int .i64 r_0.out, .int .i64 r_0.within]) T4.B56 rfl rfl rfl ?_)))))))))))
 refine al 2 (cs := [.slice none 0 0, .int .i64 0, .int .i64 0]) Tryz.zeroValue56 rfl rfl fun b8 => (sto 2 (cs := [.slice none 0 0, .int .i64 r_0.out, .int .i64 r_0.within]) Z56 rfl rfl rfl rfl rfl rfl rfl (on (sq (sq (rg (a1 rfl (on (TG.nilRow 4 58 2 (TG.as 4 (z := Own.list none 0 58 2 encSaid ([] : List Said)) rfl rfl ?_)))))))))
 obtain ⟨e90, hl91, hr92⟩ := bd_some hr
 refine jn (fun a w => ∃ (ad93 : Option Addr) (cap94 : Nat), St M W H [K5, H] [(4, Own.list ad93 cap94 58 2 encSaid e90), (2, cel b8 56 [.slice ad93 e90.length cap94, .int .i64 r_0.out, .int .i64 r_0.within]), (1, cel b7 56 [.slice none 0 0, .int .i64 0, .int .i64 0])] w ∧ Has [] 36 a [(2, .pointer (some (⟨b7, 0, none⟩))), (3, .pointer (some (⟨b8, 0, none⟩)))]) ?_ ?_
 ·refine bk ?_
  refine lp hl91 (fun s95 a w => ∃ (ad96 : Option Addr) (cap97 : Nat), St M W H [K5, H] [(4, Own.list ad96 cap97 58 2 encSaid s95.2), (2, cel b8 56 [.slice ad96 s95.2.length cap97, .int .i64 r_0.out, .int .i64 r_0.within]), (1, cel b7 56 [.slice none 0 0, .int .i64 0, .int .i64 0])] w ∧ Has [] 36 a [(1, .pointer (some q4)), (2, .pointer (some (⟨b7, 0, none⟩))), (3, .pointer (some (⟨b8, 0, none⟩))), (4, .int .i64 (s95.1 : Int))]) ?_ ?_
  ·intro a w hS hA
   exact ⟨none, 0, hS, hA.cut ⟨rfl, rfl, rfl, rfl, tv⟩⟩
  ·rintro j s95 y100 hr98 hz99 a w ⟨ad96, cap97, hS, hA⟩
   refine TG.ap ?_ hS hA
   unfold m31_1 at hr98
   refine sq (sq (rg (m1 rfl (fb 0 U68 rfl rfl rfl rfl Z66 (ld G66 rfl rfl ((sS 0 rfl hK6).take 1) rfl (lnL U66 rfl rfl (ltI rfl rfl rfl (on ?_))))))))
   refine ci rfl (fun hc104 => ?_) (fun hc104 => ?_)
   ·have hr105 := if_p hc104 hr98
    refine sk (sq (bk ?_))
    obtain ⟨x127, hx128, hr129⟩ := bd_some hr105
    obtain ⟨p130, rfl⟩ := hl3.adr hx128
    obtain ⟨cs131, hcs132, hq133, hr134⟩ := hl3.at hx128
    obtain rfl := hr134
    refine drG 16 mixed (by kernel_rfl) rfl (dt rfl (fb 0 U56 rfl rfl rfl rfl Z54 fin1) (dt rfl (ld G54 rfl rfl ((sO 2 rfl).take 1) rfl fin1) (dt rfl (fb 0 U68 rfl rfl rfl rfl Z66 fin1) (dt rfl (ld G66 rfl rfl ((sS 1 rfl hK6).take 1) rfl fin1) (dt rfl (m1 rfl fin1) (dt rfl (iaP U66 Z74 rfl rfl rfl rfl (lt_of hx128) fin1) (dt rfl (fb 0 U74 rfl rfl rfl rfl Z9 fin1) (dt rfl (ld G9 rfl rfl ((sS 2 rfl hq133).take 1) rfl fin1) (dt rfl (fb 0 U68 rfl rfl rfl rfl Z66 fin1) (dt rfl (ld G66 rfl rfl ((sS 1 rfl hK6).take 1) rfl fin1) (dt rfl (m1 rfl fin1) ?_)))))))))))
    refine dt rfl (iaP U66 Z74 rfl rfl rfl rfl (lt_of hx128) fin1) (dt rfl (fb 1 U74 rfl rfl rfl rfl Z3 fin1) (dt rfl (ld G3 rfl rfl ((sS 2 rfl hq133).drop 1) rfl fin1) (dt rfl (bu (cs := [.string (bs x127.text), .int .i64 x127.speaker]) T4.B58 rfl rfl rfl fin1) ?_)))
    refine DF.und (α := Option Addr × Nat) (none, 0) (fun q => .slice q.1 1 q.2) (fun (q : Option Addr × Nat) K => Sl (Flat encSaid) 2 K q.1 q.2 ([x127] : List Said)) (fun _ _ _ h x => x.mono (Flat.mono _) h) (by kernel_rfl) rfl (fun a w K hS hA hF => TG.pa hS hA (bS (cs := [.string (bs x127.text), .int .i64 x127.speaker]) T4.E54 rfl rfl rfl rfl fun q135 K136 hq137 hK138 => by
      have hl139 : Sl (Flat encSaid) 2 K136 (some q135) 1 ([x127] : List Said) := Sl.litR (css := [[.string (bs x127.text), .int .i64 x127.speaker]]) (l := ([x127] : List Said)) ⟨⟨rfl, rfl, rfl⟩, tv⟩ hq137 hK138 rfl
      have := hl139.len
      exact finU (f := fun q => .slice q.1 1 q.2) (G := (fun (q : Option Addr × Nat) K => Sl (Flat encSaid) 2 K q.1 q.2 ([x127] : List Said))) (_, _) (fun _ _ _ h x => x.mono (Flat.mono _) h) hl139)) ?_
    rintro ⟨ad141, cap142⟩
    refine DF.nil fun K143 hF => ?_
    obtain ⟨hu140, _⟩ := hF
    have := hu140.len
    obtain ⟨hk144, hr145⟩ := chk_some hr129
    have := lenA s95.2 ([x127] : List Said)
    refine apS 4 (enc := encSaid) (l := s95.2) (m := ([x127] : List Said)) T4.E54 rfl rfl rfl rfl rfl rfl hu140 0 rfl (fun _ => rfl) (fun _ => rfl) rfl hk144 fun ad146 cap147 => (fb 0 U56 rfl rfl rfl rfl Z54 (sto 2 (cs := [.slice ad146 ((s95.2 ++ ([x127] : List Said)).length) cap147]) Z54 rfl rfl rfl rfl rfl rfl rfl (on (rg (m1 rfl (adI rfl rfl rfl (by omega) (a1 rfl (on ?_))))))))
    cases hr145
    intro a w hS hA
    exact ⟨_, hz99, ad146, cap147, hS.selH [1, 2] rfl, hA.cut ⟨rfl, rfl, rfl, rfl, tv⟩⟩
   ·have hr148 := if_n hc104 hr98
    refine xt rfl ?_
    cases hr148
    obtain rfl := Fin.out hz99
    intro a w hS hA
    exact ⟨ad96, cap97, hS, hA.cut ⟨rfl, rfl, tv⟩⟩
 ·rintro a w ⟨ad93, cap94, hS, hA⟩
  refine TG.ap ?_ hS hA
  refine sq (rg (ldA G56 Z56 rfl rfl (sO 2 rfl) rfl (sto 1 (cs := [.slice ad93 e90.length cap94, .int .i64 r_0.out, .int .i64 r_0.within]) Z56 rfl rfl rfl rfl rfl rfl rfl (on (rt_ ?_)))))
  cases hr92
  intro a w hS hA
  refine rc1 hA rfl (ResAt.cell rfl (loadsA G56 Z56 (cell_at (hS.get (t := 1) rfl)) rfl)) ?_
  exact ⟨⟨_, rfl, ⟨_, _, rfl, (hS.listOut 4 rfl (fun _ => rfl))⟩⟩, hS.ext⟩

theorem w32 {M : Prop} {W : World} {H : Hp} (hH : H.le (hp W)) {ad_l_0 : Option Addr} {cap_l_0 : Nat} {l_0 : List Request} (h_l_0 : Sl (RRequest) 5 H ad_l_0 cap_l_0 l_0) {r : List Request} (hr : m32 l_0 = some r) : Calls Tryz.prog 32 [.slice ad_l_0 l_0.length cap_l_0].toArray W (RetK M H W (fun v K => ∃ (ad0 : Option Addr) (cap0 : Nat), v = .slice ad0 r.length cap0 ∧ Sl (RRequest) 5 K ad0 cap0 r)) := by
 have := h_l_0.len
 unfold m32 at hr
 refine enterG (M := M) Tryz.func32 rfl Tryz.ntmps32 rfl hH ?_
 refine sq (rg (a1 rfl (on (sq (rg (a1 rfl (on (sq (sq (rg (a1 rfl ?_)))))))))))
 refine on (TG.nilRow 2 63 5 ?_)
 have hR51 : Rows (RRequest) 5 H [] ([] : List Request) := tv
 refine TG.as 2 (z := Own.rows none 0 63 5 [] ([] : List Request)) rfl rfl ?_
 obtain ⟨e165, hl166, hr167⟩ := bd_some hr
 refine jn (fun a w => ∃ (ad168 : Option Addr) (cap169 : Nat) (css170 : List (List Value)) (K171 : Hp), St M W H [K171, H] [(2, Own.rows ad168 cap169 63 5 css170 e165)] w ∧ Has [] 32 a [(3, .slice ad168 e165.length cap169)] ∧ Rows (RRequest) 5 K171 css170 e165) ?_ ?_
 ·refine bk ?_
  refine lp hl166 (fun s173 a w => ∃ (ad174 : Option Addr) (cap175 : Nat) (css176 : List (List Value)) (K177 : Hp), St M W H [K177, H] [(2, Own.rows ad174 cap175 63 5 css176 s173.2)] w ∧ Has [] 32 a [(0, .slice ad_l_0 l_0.length cap_l_0), (3, .slice ad174 s173.2.length cap175), (4, .int .i64 (s173.1 : Int))] ∧ Rows (RRequest) 5 K177 css176 s173.2) ?_ ?_
  ·intro a w hS hA
   exact ⟨none, 0, [], H, hS.selH [0, 0] rfl, hA.cut ⟨rfl, rfl, rfl, tv⟩, hR51⟩
  ·rintro j s173 y181 hr179 hz180 a w ⟨ad174, cap175, css176, K177, hS, hA, hR178⟩
   refine TG.ap ?_ hS hA
   unfold m32_1 at hr179
   refine sq (sq (rg (m1 rfl (m1 rfl (lnL U69 rfl rfl (ltI rfl rfl rfl (on ?_)))))))
   refine ci rfl (fun hc185 => ?_) (fun hc185 => ?_)
   ·have hr186 := if_p hc185 hr179
    refine sk (sq (bk (sq (rg (m1 rfl (m1 rfl ?_))))))
    obtain ⟨x232, hx233, hr234⟩ := bd_some hr186
    obtain ⟨p235, rfl⟩ := h_l_0.adr hx233
    obtain ⟨cs236, hcs237, hq238, hr239⟩ := h_l_0.at hx233
    have hr240 := hr239
    obtain ⟨ad241, cap242, rfl, hl243⟩ := hr239
    have := hl243.len
    refine iaP U69 Z73 rfl rfl rfl rfl (lt_of hx233) (ldA G73 Z73 rfl rfl (sS 1 rfl hq238) rfl (va (cs := [.int .i64 x232.by_, .int .i64 x232.minute, .int .i64 x232.from_, .int .i64 x232.cut, .slice ad241 x232.put_.length cap242]) Tryz.zeroValue73 Z73 rfl rfl rfl rfl rfl rfl rfl rfl fun q244 K245 hK246 => (on ?_)))
    obtain ⟨r247, hx248, hr249⟩ := bd_some hr234
    refine drG 14 mixed (by kernel_rfl) rfl (dt rfl (m1 rfl fin1) (dt rfl (fb 0 U73 rfl rfl rfl rfl Z3 fin1) (dt rfl (ld G3 rfl rfl ((sS 1 rfl hK246).take 1) rfl fin1) (dt rfl (fb 1 U73 rfl rfl rfl rfl Z3 fin1) (dt rfl (ld G3 rfl rfl (((sS 1 rfl hK246).drop 1).take 1) rfl fin1) (dt rfl (fb 2 U73 rfl rfl rfl rfl Z3 fin1) (dt rfl (ld G3 rfl rfl (((sS 1 rfl hK246).drop 2).take 1) rfl fin1) (dt rfl (fb 3 U73 rfl rfl rfl rfl Z3 fin1) (dt rfl (ld G3 rfl rfl (((sS 1 rfl hK246).drop 3).take 1) rfl fin1) (dt rfl (fb 4 U73 rfl rfl rfl rfl Z24 fin1) (dt rfl (ld G24 rfl rfl ((sS 1 rfl hK246).drop 4) rfl fin1) ?_)))))))))))
    refine DF.und (α := Option Addr × Nat) (none, 0) (fun q => .slice q.1 r247.length q.2) (fun (q : Option Addr × Nat) K => Sl (Flat encS) 1 K q.1 q.2 r247) (fun _ _ _ h x => x.mono (Flat.mono _) h) (by kernel_rfl) rfl (fun a w K hS hA hF => TG.pa hS hA (clK C21 rfl rfl rfl rfl (fun w H hH le => w21 hH (hl243.mono (Flat.mono _) (le.at 3 rfl)) hx248) (by
      rintro v_ K250 ⟨ad251, cap252, rfl, hl253⟩
      exact finU (f := fun q => .slice q.1 r247.length q.2) (G := (fun (q : Option Addr × Nat) K => Sl (Flat encS) 1 K q.1 q.2 r247)) (_, _) (fun _ _ _ h x => x.mono (Flat.mono _) h) hl253))) ?_
    rintro ⟨ad255, cap256⟩
    refine DF.und () (fun _ => .agg [.int .i64 x232.by_, .int .i64 x232.minute, .int .i64 x232.from_, .int .i64 x232.cut, .slice ad255 r247.length cap256].toArray) (fun _ K => Sl (Flat encS) 1 K ad255 cap256 r247) (fun _ _ _ h x => x.mono (Flat.mono _) h) (by kernel_rfl) rfl (fun a w K hS hA hF => TG.pa hS hA (bu (cs := [.int .i64 x232.by_, .int .i64 x232.minute, .int .i64 x232.from_, .int .i64 x232.cut, .slice ad255 r247.length cap256]) T4.B63 rfl rfl rfl (finF (f := fun _ => .agg [.int .i64 x232.by_, .int .i64 x232.minute, .int .i64 x232.from_, .int .i64 x232.cut, .slice ad255 r247.length cap256].toArray) (G := fun _ K => Sl (Flat encS) 1 K ad255 cap256 r247) () (hF.1 rfl)))) fun _ => ?_
    refine DF.und (α := Option Addr × Nat) (none, 0) (fun q => .slice q.1 1 q.2) (fun (q : Option Addr × Nat) K => Sl (RRequest) 5 K q.1 q.2 ([(⟨x232.by_, x232.minute, x232.from_, x232.cut, r247⟩ : Request)] : List Request)) (fun _ _ _ h x => x.mono (RRequest.mono) h) (by kernel_rfl) rfl (fun a w K hS hA hF => TG.pa hS hA (bS (cs := [.int .i64 x232.by_, .int .i64 x232.minute, .int .i64 x232.from_, .int .i64 x232.cut, .slice ad255 r247.length cap256]) T4.E64 rfl rfl rfl rfl fun q258 K259 hq260 hK261 => by
      refine TG.pack (fun K => Sl (RRequest) 5 K (some q258) 1 ([(⟨x232.by_, x232.minute, x232.from_, x232.cut, r247⟩ : Request)] : List Request)) (fun H le => Sl.litR (css := [[.int .i64 x232.by_, .int .i64 x232.minute, .int .i64 x232.from_, .int .i64 x232.cut, .slice ad255 r247.length cap256]]) (l := ([(⟨x232.by_, x232.minute, x232.from_, x232.cut, r247⟩ : Request)] : List Request)) ⟨⟨rfl, rfl, ⟨_, _, rfl, ((hF.1 rfl).mono (Flat.mono _) (le.at 1 rfl))⟩⟩, tv⟩ hq260 (hK261.mono (le.at 0 rfl)) rfl) fun K263 hl262 => ?_
      have := hl262.len
      refine sk1 ?_
      exact finU (f := fun q => .slice q.1 1 q.2) (G := (fun (q : Option Addr × Nat) K => Sl (RRequest) 5 K q.1 q.2 ([(⟨x232.by_, x232.minute, x232.from_, x232.cut, r247⟩ : Request)] : List Request))) (_, _) (fun _ _ _ h x => x.mono (RRequest.mono) h) hl262)) ?_
    rintro ⟨ad265, cap266⟩
    refine DF.nil fun K267 hF => ?_
    obtain ⟨hu264, hu257, hu254, _⟩ := hF
    have := hu254.len
    have := hu264.len
    obtain ⟨hk268, hr269⟩ := chk_some hr249
    have := lenA s173.2 ([(⟨x232.by_, x232.minute, x232.from_, x232.cut, r247⟩ : Request)] : List Request)
    refine TG.pack (fun K => Sl (RRequest) 5 K ad265 cap266 ([(⟨x232.by_, x232.minute, x232.from_, x232.cut, r247⟩ : Request)] : List Request) ∧ Rows (RRequest) 5 K css176 s173.2) (fun H le => ⟨hu264.mono (RRequest.mono) (le.at 0 rfl), hR178.mono (RRequest.mono) (le.at 2 rfl)⟩) fun K272 ⟨hm273, hR274⟩ => (apR 2 (l := s173.2) (m := ([(⟨x232.by_, x232.minute, x232.from_, x232.cut, r247⟩ : Request)] : List Request)) T4.E64 rfl rfl rfl rfl rfl rfl hm273 hR274 RRequest.one rfl hk268 fun ad270 cap271 css276 hR275 => (a1 rfl (on (rg (m1 rfl (adI rfl rfl rfl (by omega) (a1 rfl (on ?_))))))))
    cases hr269
    intro a w hS hA
    exact ⟨_, hz180, ad270, cap271, css276, K272, hS.selH [0, 4] rfl, hA.cut ⟨rfl, rfl, rfl, tv⟩, hR275⟩
   ·have hr277 := if_n hc185 hr179
    refine xt rfl ?_
    cases hr277
    obtain rfl := Fin.out hz180
    intro a w hS hA
    exact ⟨ad174, cap175, css176, K177, hS, hA.cut ⟨rfl, tv⟩, hR178⟩
 ·rintro a w ⟨ad168, cap169, css170, K171, hS, hA, hR172⟩
  refine TG.ap ?_ hS hA
  refine sq (rg (m1 rfl (a1 rfl (on (rt_ ?_)))))
  cases hr167
  intro a w hS hA
  refine ret1 hA rfl rfl ?_
  exact ⟨⟨_, _, rfl, (hS.rowsOut 2 rfl 0 rfl (RRequest.mono) hR172)⟩, hS.ext⟩

theorem w65 {M : Prop} {W : World} {H : Hp} (hH : H.le (hp W)) (a_0 : Int) (b_1 : Int) {q_f0_ : Addr} {ad_f0_ : Option Addr} {cap_f0_ : Nat} {f0_ : List Request} (hc_f0_ : CellsAt H q_f0_ [.slice ad_f0_ f0_.length cap_f0_]) (h_f0_ : Sl (RRequest) 5 H ad_f0_ cap_f0_ f0_) {r : Int} (hr : m65 a_0 b_1 f0_ = some r) : Calls Tryz.prog 65 [.int .i64 a_0, .int .i64 b_1, .pointer (some q_f0_)].toArray W (RetS M W (.int .i64 r)) := by
 have := h_f0_.len
 unfold m65 at hr
 refine enterG (M := M) Tryz.func65 rfl Tryz.ntmps65 rfl hH ?_
 refine sq (rg (a1 rfl (on (sq ?_))))
 obtain ⟨hk1, hr2⟩ := chk_some hr
 obtain ⟨x3, hx4, hr5⟩ := bd_some hr2
 obtain ⟨p6, rfl⟩ := h_f0_.adr hx4
 obtain ⟨cs7, hcs8, hq9, hr10⟩ := h_f0_.at hx4
 have hr11 := hr10
 obtain ⟨ad12, cap13, rfl, hl14⟩ := hr10
 have := hl14.len
 obtain ⟨hk15, hr16⟩ := chk_some hr5
 obtain ⟨x17, hx18, hr19⟩ := bd_some hr16
 obtain ⟨cs20, hcs21, hq22, hr23⟩ := h_f0_.at hx18
 have hr24 := hr23
 obtain ⟨ad25, cap26, rfl, hl27⟩ := hr23
 have := hl27.len
 obtain ⟨hk28, hr29⟩ := chk_some hr19
 obtain ⟨hk30, hr31⟩ := chk_some hr29
 refine drG 22 mixed (by kernel_rfl) rfl (dt rfl (ld G64 rfl rfl (sS 1 rfl hc_f0_) rfl fin1) (dt rfl (m1 rfl fin1) (dt rfl (iaP U64 Z63 rfl rfl rfl (by omega) (lt_of hx4) fin1) (dt rfl (fb 2 U63 rfl rfl rfl rfl Z3 fin1) (dt rfl (ld G3 rfl rfl (((sS 1 rfl hq9).drop 2).take 1) rfl fin1) (dt rfl (ld G64 rfl rfl (sS 1 rfl hc_f0_) rfl fin1) (dt rfl (m1 rfl fin1) (dt rfl (iaP U64 Z63 rfl rfl rfl (by omega) (lt_of hx18) fin1) (dt rfl (fb 2 U63 rfl rfl rfl rfl Z3 fin1) (dt rfl (ld G3 rfl rfl (((sS 1 rfl hq22).drop 2).take 1) rfl fin1) (dt rfl (sbI rfl rfl rfl hk28 fin1) ?_)))))))))))
 refine dt rfl (ld G64 rfl rfl (sS 1 rfl hc_f0_) rfl fin1) (dt rfl (m1 rfl fin1) (dt rfl (iaP U64 Z63 rfl rfl rfl (by omega) (lt_of hx4) fin1) (dt rfl (fb 3 U63 rfl rfl rfl rfl Z3 fin1) (dt rfl (ld G3 rfl rfl (((sS 1 rfl hq9).drop 3).take 1) rfl fin1) (dt rfl (ld G64 rfl rfl (sS 1 rfl hc_f0_) rfl fin1) (dt rfl (m1 rfl fin1) (dt rfl (iaP U64 Z63 rfl rfl rfl (by omega) (lt_of hx18) fin1) (dt rfl (fb 3 U63 rfl rfl rfl rfl Z3 fin1) (dt rfl (ld G3 rfl rfl (((sS 1 rfl hq22).drop 3).take 1) rfl fin1) (dt rfl (sbI rfl rfl rfl hk30 fin1) (DF.nil fun K32 hF => ?_)))))))))))
 refine bS (cs := [.int .i64 (x3.from_ - x17.from_), .int .i64 (x3.cut - x17.cut)]) T4.E86 rfl rfl rfl rfl fun q33 K34 hq35 hK36 => ?_
 have hl37 : Sl (Flat (encI .i64)) 1 K34 (some q33) 2 ([(x3.from_ - x17.from_), (x3.cut - x17.cut)] : List Int) := Sl.litR (css := [[.int .i64 (x3.from_ - x17.from_)], [.int .i64 (x3.cut - x17.cut)]]) (l := ([(x3.from_ - x17.from_), (x3.cut - x17.cut)] : List Int)) ⟨⟨rfl, rfl, rfl⟩, ⟨rfl, rfl, rfl⟩, tv⟩ hq35 hK36 rfl
 have := hl37.len
 obtain ⟨r38, hx39, hr40⟩ := bd_some hr31
 refine clS C66 rfl rfl rfl rfl (fun w H hH le => w66 hH (hl37.mono (Flat.mono _) (le.at 0 rfl)) hx39) (a1 rfl (on (rt_ ?_)))
 cases hr40
 intro a w hS hA
 refine ret1 hA rfl rfl ?_
 exact ⟨rfl, hS.ext⟩

theorem w70 {M : Prop} {W : World} {H : Hp} (hH : H.le (hp W)) {ad_s_0 : Option Addr} {cap_s_0 : Nat} {s_0 : List Bytes} (h_s_0 : Sl (Flat encS) 1 H ad_s_0 cap_s_0 s_0) {r : List Bytes} (hr : m70 s_0 = some r) : Calls Tryz.prog 70 [.slice ad_s_0 s_0.length cap_s_0].toArray W (RetK M H W (fun v K => ∃ (ad0 : Option Addr) (cap0 : Nat), v = .slice ad0 r.length cap0 ∧ Sl (Flat encS) 1 K ad0 cap0 r)) := by
 have := h_s_0.len
 unfold m70 at hr
 refine enterG (M := M) Tryz.func70 rfl Tryz.ntmps70 rfl hH ?_
 refine sq (rg (a1 rfl (on (sq (sq (rg (m1 rfl (slN U24 rfl rfl (on ?_)))))))))
 refine cb rfl (fun hc3 => ?_) (fun hc3 => ?_)
 ·obtain rfl := Sl.isNil h_s_0 hc3
  have hr4 := (chk_some hr).2
  refine sq (rg (a1 rfl (on (rt_ ?_))))
  cases hr4
  intro a w hS hA
  refine ret1 hA rfl rfl ?_
  exact ⟨⟨_, _, rfl, (Sl.nil _ _ _ _ _ (by decide))⟩, hS.ext⟩
 ·refine sk (sq (rg (bSL 1 encS ([] : List Bytes) (cs := []) T4.E24 rfl rfl rfl rfl rfl rfl fun b5 => (m1 rfl ?_))))
  obtain ⟨hk6, hr7⟩ := chk_some hr
  have := lenA ([] : List Bytes) s_0
  refine apS 1 (enc := encS) (l := ([] : List Bytes)) (m := s_0) T4.E24 rfl rfl rfl rfl rfl rfl h_s_0 0 rfl (fun _ => rfl) (fun _ => rfl) rfl hk6 fun ad8 cap9 => (a1 rfl (on (rt_ ?_)))
  cases hr7
  intro a w hS hA
  refine ret1 hA rfl rfl ?_
  exact ⟨⟨_, _, rfl, (hS.listOut 1 rfl (fun _ => rfl))⟩, hS.ext⟩

end T4
