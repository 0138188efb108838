/-
 Walks of functions of layer 4: each call comes to what the model says. Printed by a program of ours.
-/
import Derived.Test.YtelimceikglofaaGreatDoorWalkA
set_option linter.all false
set_option maxHeartbeats 4000000
namespace T4
open Go Go.Proofs Pk
theorem w29 {M : Prop} {W : World} {H : Hp} (hH : H.le (hp W)) (hg : Gv M H) {cs_l_0 : List Value} (l_0 : Lexicon) (h_l_0 : (RLexicon) H cs_l_0 l_0) {ad_swaps : Option Addr} {cap_swaps : Nat} {swaps : List Swap} (h_swaps : Sl (Flat encSwap) 3 H ad_swaps cap_swaps swaps) {cs_r_2 : List Value} (r_2 : Report) (h_r_2 : (RReport) H cs_r_2 r_2) {ad_requests : Option Addr} {cap_requests : Nat} {requests : List Request} (h_requests : Sl (RRequest) 5 H ad_requests cap_requests requests) {r : List Int × Int} (hr : m29 l_0 swaps r_2 requests = some r) : Calls Tryz.prog 29 [.agg cs_l_0.toArray, .slice ad_swaps swaps.length cap_swaps, .agg cs_r_2.toArray, .slice ad_requests requests.length cap_requests].toArray W (RetK M H W (fun v K => ∃ (ad0 : Option Addr) (cap0 : Nat), v = .tuple [.slice ad0 r.1.length cap0, .int .i64 r.2].toArray ∧ Sl (Flat (encI .i64)) 1 K ad0 cap0 r.1)) := by
 have hh_l_0 := h_l_0
 obtain ⟨ad1, cap2, ad4, cap5, ad7, cap8, rfl, hl3, hl6, hl9⟩ := h_l_0
 have := hl3.len
 have := hl6.len
 have := hl9.len
 have := h_swaps.len
 have hh_r_2 := h_r_2
 obtain ⟨ad10, cap11, rfl, hl12⟩ := h_r_2
 have := hl12.len
 have := h_requests.len
 unfold m29 at hr
 refine enterG (M := M) Tryz.func29 rfl Tryz.ntmps29 rfl hH ?_
 refine sq (rg (bI (cs := [.slice ad1 l_0.numbers.length cap2, .slice ad4 l_0.names.length cap5, .slice ad7 l_0.nots.length cap8]) rfl rfl rfl fun q13 K14 hK15 => (bI (cs := [.slice ad10 r_2.words.length cap11, .int .i64 r_2.out, .int .i64 r_2.within]) rfl rfl rfl fun q16 K17 hK18 => (a1 rfl (a1 rfl (on (sq (rg (ldA G36 Z36 rfl rfl (sS 1 rfl hK15) rfl (m1 rfl (ldA G56 Z56 rfl rfl (sS 0 rfl hK18) rfl ?_)))))))))))
 refine m1 rfl ?_
 obtain ⟨t1082, hx1083, hr1084⟩ := bd_some hr
 refine clI C59 Tryz.func59 rfl Tryz.ntmps59 rfl rfl rfl rfl (fun v w => (∃ (t1085 : Int), t1082 = (.inl t1085) ∧ v = .tuple [.pointer none, .int .i64 t1085].toArray ∧ St M W H [K17, K14, H] [] w) ∨ (∃ (t1086 : List Int × List Request × List Said × (List (Bytes × Mark)) × List Swap × List Int), t1082 = (.inr t1086) ∧ ∃ (b1087 : Nat) (ad1088 : Option Addr) (cap1089 : Nat) (ad1090 : Option Addr) (cap1091 : Nat) (css1092 : List (List Value)) (K1093 : Hp) (ad1095 : Option Addr) (cap1096 : Nat) (K1097 : Hp) (mp1099 : Value) (K1100 : Hp) (ad1102 : Option Addr) (cap1103 : Nat) (K1104 : Hp) (ad1106 : Option Addr) (cap1107 : Nat), v = .tuple [.pointer (some (⟨b1087, 0, none⟩)), .int .i64 0].toArray ∧ St M W H [K1093, K1097, K1100, K1104, K17, K14, H] [(8, Own.list ad1088 cap1089 3 1 (encI .i64) t1086.1), (7, Own.rows ad1090 cap1091 63 5 css1092 t1086.2.1), (2, cel b1087 133 [.slice ad1095 t1086.2.2.1.length cap1096, .int .i64 r_2.out, .int .i64 r_2.within, mp1099, .slice ad1102 t1086.2.2.2.2.1.length cap1103, .slice ad1090 t1086.2.1.length cap1091, .slice ad1088 t1086.1.length cap1089, .slice ad1106 t1086.2.2.2.2.2.length cap1107]), (1, Own.list ad1106 cap1107 31 1 (encI .i64) t1086.2.2.2.2.2)] w ∧ Rows (RRequest) 5 K1093 css1092 t1086.2.1 ∧ Sl (Flat encSaid) 2 K1097 ad1095 cap1096 t1086.2.2.1 ∧ Mp keS (fun x => Value.agg (encMark x).toArray) K1100 mp1099 t1086.2.2.2.1 ∧ Sl (Flat encSwap) 3 K1104 ad1102 cap1103 t1086.2.2.2.2.1)) ?_ ?_
 ·refine sq (rg (bI (cs := [.slice ad1 l_0.numbers.length cap2, .slice ad4 l_0.names.length cap5, .slice ad7 l_0.nots.length cap8]) rfl rfl rfl fun q1108 K1109 hK1110 => (bI (cs := [.slice ad10 r_2.words.length cap11, .int .i64 r_2.out, .int .i64 r_2.within]) rfl rfl rfl fun q1111 K1112 hK1113 => (bI (cs := [.slice ad_requests requests.length cap_requests]) rfl rfl rfl fun q1114 K1115 hK1116 => (a1 rfl (a1 rfl (on (sq (rg (ldA G36 Z36 rfl rfl (sS 2 rfl hK1110) rfl (m1 rfl ?_)))))))))))
  obtain ⟨r1117, hx1118, hr1119⟩ := bd_some hx1083
  refine clK C51 rfl rfl rfl rfl (fun w H hH le => w51 hH l_0 (RLexicon.mono _ _ _ _ (le.at 5 rfl) hh_l_0) (h_swaps.mono (Flat.mono _) (le.at 5 rfl)) hx1118) ?_
  rintro v_ K1120 ⟨cs1121, rfl, hr1122⟩
  have hr1123 := hr1122
  obtain ⟨mp1124, ad1126, cap1127, rfl, hm1125, hl1128⟩ := hr1122
  have := hl1128.len
  refine m1 rfl (ex rfl rfl rfl (ex rfl rfl rfl ?_))
  obtain ⟨b1129, rfl⟩ := Mp.isMap hm1125
  refine va (cs := [.map b1129, .slice ad1126 r1117.1.swaps.length cap1127]) Tryz.zeroValue117 Z117 rfl rfl rfl rfl rfl rfl rfl rfl fun q1130 K1131 hK1132 => (a1 rfl (on (sq (sq (rg (m1 rfl (neI rfl rfl rfl (on ?_))))))))
  refine ci rfl (fun hc1136 => ?_) (fun hc1136 => ?_)
  ·have hr1137 := if_p hc1136 hr1119
   refine sq (rg (m1 rfl (a1 rfl (a1 rfl (on (rt_ ?_))))))
   cases hr1137
   intro a w hS hA
   refine ret2 hA rfl rfl rfl ?_
   exact ⟨_, rfl, .inl ⟨_, rfl, rfl, hS.selH [5, 6, 7] rfl⟩⟩
  ·have hr1138 := if_n hc1136 hr1119
   refine sk (sq (sq (rg (ldA G56 Z56 rfl rfl (sS 3 rfl hK1113) rfl ?_))))
   obtain ⟨r1139, hx1140, hr1141⟩ := bd_some hr1138
   refine clS C61 rfl rfl rfl rfl (fun w H hH le => w61 hH r_2 (RReport.mono _ _ _ _ (le.at 7 rfl) hh_r_2) hx1140) (a1 rfl (on (sq (rg (m1 rfl (neI rfl rfl rfl (on ?_)))))))
   refine ci rfl (fun hc1145 => ?_) (fun hc1145 => ?_)
   ·have hr1146 := if_p hc1145 hr1141
    refine sq (rg (m1 rfl (a1 rfl (a1 rfl (on (rt_ ?_))))))
    cases hr1146
    intro a w hS hA
    refine ret2 hA rfl rfl rfl ?_
    exact ⟨_, rfl, .inl ⟨_, rfl, rfl, hS.selH [5, 6, 7] rfl⟩⟩
   ·have hr1147 := if_n hc1145 hr1141
    refine sk (sq (sq (rg (ld G64 rfl rfl (sS 2 rfl hK1116) rfl (lnL U64 rfl rfl (gtI rfl rfl rfl (on ?_)))))))
    refine ci rfl (fun hc1151 => ?_) (fun hc1151 => ?_)
    ·have hr1152 := if_p hc1151 hr1147
     refine sq (rg (a1 rfl (a1 rfl (on (rt_ ?_)))))
     cases hr1152
     intro a w hS hA
     refine ret2 hA rfl rfl rfl ?_
     exact ⟨_, rfl, .inl ⟨_, rfl, rfl, hS.selH [5, 6, 7] rfl⟩⟩
    ·have hr1153 := if_n hc1151 hr1147
     refine sk (sq ?_)
     obtain ⟨hk1154, hr1155⟩ := chk_some hr1153
     have : (List.replicate requests.length (0 : Int)).length = requests.length := List.length_replicate
     refine drG2 5 4 mixed (by kernel_rfl) rfl rfl (DG.detA rfl rfl rfl (fun τ a w K hS hA hF => TG.pa hS hA (ldA G56 Z56 rfl rfl (sS 4 rfl hK1113) rfl fin1)) (DG.detA rfl rfl rfl (fun τ a w K hS hA hF => TG.pa hS hA (ldA G117 Z117 rfl rfl (sS 1 rfl hK1132) rfl fin1)) (DG.det (fun τ => τ = []) rfl rfl (.inr (by kernel_rfl)) (fun _ h => by cases h) rfl rfl (fun τ hτ a w K hS hA hF => by subst hτ <;> exact TG.pa hS hA (ld G64 rfl rfl (sS 3 rfl hK1116) rfl fin1)) (DG.det (fun τ => τ = []) rfl rfl (.inr (by kernel_rfl)) (fun _ h => by cases h) rfl rfl (fun τ hτ a w K hS hA hF => by subst hτ <;> exact TG.pa hS hA (lnL U64 rfl rfl fin1)) (DG.turn (α := Nat) 0 (fun b1156 => .slice (some ⟨b1156, 0, none⟩) ((List.replicate requests.length (0 : Int)).length) requests.length) (fun _ _ => True) (fun b1156 => [(1, Own.list (some ⟨b1156, 0, none⟩) requests.length 31 1 (encI .i64) (List.replicate requests.length (0 : Int)))]) rfl (fun _ _ _ _ h => h) (by kernel_rfl) rfl rfl (fun a w K hS hA hF => TG.pa hS hA (mkL 1 (encI .i64) (0 : Int) T4.E59 rfl rfl rfl rfl rfl rfl rfl hk1154 fun b1156 => finT (f := fun b1156 => .slice (some ⟨b1156, 0, none⟩) ((List.replicate requests.length (0 : Int)).length) requests.length) (G := fun _ _ => True) (σ1 := fun b1156 => [(1, Own.list (some ⟨b1156, 0, none⟩) requests.length 31 1 (encI .i64) (List.replicate requests.length (0 : Int)))]) b1156 tv)) fun b1156 => (DG.nil fun K1157 hF => ?_))))))
     obtain ⟨_, _⟩ := hF
     refine bu (cs := [.slice ad10 r_2.words.length cap11, .int .i64 r_2.out, .int .i64 r_2.within, .map b1129, .slice ad1126 r1117.1.swaps.length cap1127, .slice none 0 0, .slice none 0 0, .slice (some ⟨b1156, 0, none⟩) ((List.replicate requests.length (0 : Int)).length) requests.length]) T4.B133 rfl rfl rfl (bO 2 rfl rfl rfl fun b1158 => (a1 rfl (on (sq (rg (a1 rfl (on (sq (sq (rg (ld G64 rfl rfl (sS 3 rfl hK1116) rfl ?_)))))))))))
     refine lnL U64 rfl rfl (m1 rfl (on (TG.nilRow 4 3 1 (TG.as 4 (z := Own.list none 0 3 1 (encI .i64) ([] : List Int)) rfl rfl ?_))))
     obtain ⟨e1192, hl1193, hr1194⟩ := bd_some hr1155
     refine jn (fun a w => ∃ (ad1195 : Option Addr) (cap1196 : Nat), St M W H [K1157, K1131, K1120, K1115, K1112, K1109, K17, K14, H] [(4, Own.list ad1195 cap1196 3 1 (encI .i64) e1192), (2, cel b1158 133 [.slice ad10 r_2.words.length cap11, .int .i64 r_2.out, .int .i64 r_2.within, .map b1129, .slice ad1126 r1117.1.swaps.length cap1127, .slice none 0 0, .slice none 0 0, .slice (some ⟨b1156, 0, none⟩) ((List.replicate requests.length (0 : Int)).length) requests.length]), (1, Own.list (some ⟨b1156, 0, none⟩) requests.length 31 1 (encI .i64) (List.replicate requests.length (0 : Int)))] w ∧ Has [] 106 a [(7, .pointer (some q1114)), (13, .pointer (some (⟨b1158, 0, none⟩))), (14, .slice ad1195 e1192.length cap1196)]) ?_ ?_
     ·refine bk ?_
      refine lp hl1193 (fun s1197 a w => ∃ (ad1198 : Option Addr) (cap1199 : Nat), St M W H [K1157, K1131, K1120, K1115, K1112, K1109, K17, K14, H] [(4, Own.list ad1198 cap1199 3 1 (encI .i64) s1197.2), (2, cel b1158 133 [.slice ad10 r_2.words.length cap11, .int .i64 r_2.out, .int .i64 r_2.within, .map b1129, .slice ad1126 r1117.1.swaps.length cap1127, .slice none 0 0, .slice none 0 0, .slice (some ⟨b1156, 0, none⟩) ((List.replicate requests.length (0 : Int)).length) requests.length]), (1, Own.list (some ⟨b1156, 0, none⟩) requests.length 31 1 (encI .i64) (List.replicate requests.length (0 : Int)))] w ∧ Has [] 106 a [(7, .pointer (some q1114)), (13, .pointer (some (⟨b1158, 0, none⟩))), (14, .slice ad1198 s1197.2.length cap1199), (43, .int .i64 (requests.length : Int)), (44, .int .i64 (s1197.1 : Int))]) ?_ ?_
      ·intro a w hS hA
       exact ⟨none, 0, hS, hA.cut ⟨rfl, rfl, rfl, rfl, rfl, tv⟩⟩
      ·rintro j s1197 y1202 hr1200 hz1201 a w ⟨ad1198, cap1199, hS, hA⟩
       refine TG.ap ?_ hS hA
       unfold m29_1 at hr1200
       refine sq (rg (ltI rfl rfl rfl (on (sq ?_))))
       refine ci rfl (fun hc1206 => ?_) (fun hc1206 => ?_)
       ·have hr1207 := if_p hc1206 hr1200
        refine sk (sq (bk (sq (rg (m1 rfl (a1 rfl (on (rg (m1 rfl (m1 rfl ?_))))))))))
        obtain ⟨hk1213, hr1214⟩ := chk_some hr1207
        have := lenA s1197.2 [(s1197.1 : Int)]
        refine ap1 4 (encI .i64) (l := s1197.2) (s1197.1 : Int) T4.E86 rfl rfl rfl rfl rfl rfl rfl rfl rfl rfl rfl rfl hk1213 fun ad1215 cap1216 u1217 => (a1 rfl (on (rg (adI rfl rfl rfl (by omega) (m1 rfl (on ?_))))))
        cases hr1214
        intro a w hS hA
        exact ⟨_, hz1201, ad1215, cap1216, hS, hA.cut ⟨rfl, rfl, rfl, rfl, rfl, tv⟩⟩
       ·have hr1218 := if_n hc1206 hr1200
        refine xt rfl ?_
        cases hr1218
        obtain rfl := Fin.out hz1201
        intro a w hS hA
        exact ⟨ad1198, cap1199, hS, hA.cut ⟨rfl, rfl, rfl, tv⟩⟩
     ·rintro a w ⟨ad1195, cap1196, hS, hA⟩
      refine TG.ap ?_ hS hA
      refine sq (rg (m1 rfl (fn rfl rfl rfl ?_)))
      obtain ⟨t1886, hx1887, hr1888⟩ := bd_some hr1194
      refine clI C87 Tryz.func87 rfl Tryz.ntmps87 rfl rfl rfl rfl (fun v w => (v = .tuple #[] ∧ St M W H [K1157, K1131, K1120, K1115, K1112, K1109, K17, K14, H] [(4, Own.list ad1195 cap1196 3 1 (encI .i64) t1886), (2, cel b1158 133 [.slice ad10 r_2.words.length cap11, .int .i64 r_2.out, .int .i64 r_2.within, .map b1129, .slice ad1126 r1117.1.swaps.length cap1127, .slice none 0 0, .slice none 0 0, .slice (some ⟨b1156, 0, none⟩) ((List.replicate requests.length (0 : Int)).length) requests.length]), (1, Own.list (some ⟨b1156, 0, none⟩) requests.length 31 1 (encI .i64) (List.replicate requests.length (0 : Int)))] w ∧ t1886.length = e1192.length)) ?_ ?_
      ·refine rg (m1 rfl (m1 rfl (TG.len 4 rfl fun _ => (lnL U86 rfl rfl (m1 rfl ?_)))))
       obtain ⟨t2553, hx2554, hr2555⟩ := bd_some hx1887
       refine clI C112 Tryz.func112 rfl Tryz.ntmps112 rfl rfl rfl rfl (fun v w => (v = .tuple #[] ∧ St M W H [K1157, K1131, K1120, K1115, K1112, K1109, K17, K14, H] [(4, Own.list ad1195 cap1196 3 1 (encI .i64) t2553), (2, cel b1158 133 [.slice ad10 r_2.words.length cap11, .int .i64 r_2.out, .int .i64 r_2.within, .map b1129, .slice ad1126 r1117.1.swaps.length cap1127, .slice none 0 0, .slice none 0 0, .slice (some ⟨b1156, 0, none⟩) ((List.replicate requests.length (0 : Int)).length) requests.length]), (1, Own.list (some ⟨b1156, 0, none⟩) requests.length 31 1 (encI .i64) (List.replicate requests.length (0 : Int)))] w ∧ t2553.length = e1192.length)) ?_ ?_
       ·refine sq (rg (a1 rfl (on (sq (rg (m1 rfl (a1 rfl (a1 rfl (on (sq ?_))))))))))
        obtain ⟨e2991, hl2992, hr2993⟩ := bd_some hx2554
        refine jn (fun a w => St M W H [K1157, K1131, K1120, K1115, K1112, K1109, K17, K14, H] [(4, Own.list ad1195 cap1196 3 1 (encI .i64) e2991.2), (2, cel b1158 133 [.slice ad10 r_2.words.length cap11, .int .i64 r_2.out, .int .i64 r_2.within, .map b1129, .slice ad1126 r1117.1.swaps.length cap1127, .slice none 0 0, .slice none 0 0, .slice (some ⟨b1156, 0, none⟩) ((List.replicate requests.length (0 : Int)).length) requests.length]), (1, Own.list (some ⟨b1156, 0, none⟩) requests.length 31 1 (encI .i64) (List.replicate requests.length (0 : Int)))] w ∧ Has [] 63 a [(0, .slice ad1195 e1192.length cap1196), (1, .int .i64 (e1192.length : Int)), (2, .func (.func 88) [].toArray [.pointer (some q1114)].toArray), (6, .int .i64 20), (7, .int .i64 (e2991.1 : Int))] ∧ e2991.2.length = e1192.length) ?_ ?_
        ·refine bk ?_
         refine lp hl2992 (fun s2995 a w => St M W H [K1157, K1131, K1120, K1115, K1112, K1109, K17, K14, H] [(4, Own.list ad1195 cap1196 3 1 (encI .i64) s2995.2.2), (2, cel b1158 133 [.slice ad10 r_2.words.length cap11, .int .i64 r_2.out, .int .i64 r_2.within, .map b1129, .slice ad1126 r1117.1.swaps.length cap1127, .slice none 0 0, .slice none 0 0, .slice (some ⟨b1156, 0, none⟩) ((List.replicate requests.length (0 : Int)).length) requests.length]), (1, Own.list (some ⟨b1156, 0, none⟩) requests.length 31 1 (encI .i64) (List.replicate requests.length (0 : Int)))] w ∧ Has [] 63 a [(0, .slice ad1195 e1192.length cap1196), (1, .int .i64 (e1192.length : Int)), (2, .func (.func 88) [].toArray [.pointer (some q1114)].toArray), (6, .int .i64 20), (7, .int .i64 (s2995.1 : Int)), (8, .int .i64 (s2995.2.1 : Int))] ∧ s2995.2.2.length = e1192.length) ?_ ?_
         ·intro a w hS hA
          exact ⟨hS, hA.cut ⟨rfl, rfl, rfl, rfl, rfl, rfl, tv⟩, rfl⟩
         ·rintro j s2995 y2999 hr2997 hz2998 a w ⟨hS, hA, hln2996⟩
          refine TG.ap ?_ hS hA
          unfold m29_2 at hr2997
          refine sq (sq (rg (m1 rfl (m1 rfl (leI rfl rfl rfl (on ?_))))))
          refine ci rfl (fun hc3003 => ?_) (fun hc3003 => ?_)
          ·have hr3004 := if_p hc3003 hr2997
           refine sk (bk (sq (rg (m1 rfl (m1 rfl (m1 rfl (m1 rfl ?_)))))))
           obtain ⟨t3423, hx3424, hr3425⟩ := bd_some hr3004
           refine clI C122 Tryz.func122 rfl Tryz.ntmps122 rfl rfl rfl rfl (fun v w => (v = .tuple #[] ∧ St M W H [K1157, K1131, K1120, K1115, K1112, K1109, K17, K14, H] [(4, Own.list ad1195 cap1196 3 1 (encI .i64) t3423), (2, cel b1158 133 [.slice ad10 r_2.words.length cap11, .int .i64 r_2.out, .int .i64 r_2.within, .map b1129, .slice ad1126 r1117.1.swaps.length cap1127, .slice none 0 0, .slice none 0 0, .slice (some ⟨b1156, 0, none⟩) ((List.replicate requests.length (0 : Int)).length) requests.length]), (1, Own.list (some ⟨b1156, 0, none⟩) requests.length 31 1 (encI .i64) (List.replicate requests.length (0 : Int)))] w ∧ t3423.length = e1192.length)) ?_ ?_
           ·refine sq (rg (m1 rfl ?_))
            obtain ⟨hk3427, hr3428⟩ := chk_some hx3424
            refine adI rfl rfl rfl hk3427 (a1 rfl (on ?_))
            obtain ⟨e3631, hl3632, hr3633⟩ := bd_some hr3428
            refine jn (fun a w => St M W H [K1157, K1131, K1120, K1115, K1112, K1109, K17, K14, H] [(4, Own.list ad1195 cap1196 3 1 (encI .i64) e3631), (2, cel b1158 133 [.slice ad10 r_2.words.length cap11, .int .i64 r_2.out, .int .i64 r_2.within, .map b1129, .slice ad1126 r1117.1.swaps.length cap1127, .slice none 0 0, .slice none 0 0, .slice (some ⟨b1156, 0, none⟩) ((List.replicate requests.length (0 : Int)).length) requests.length]), (1, Own.list (some ⟨b1156, 0, none⟩) requests.length 31 1 (encI .i64) (List.replicate requests.length (0 : Int)))] w ∧ Has [] 53 a [] ∧ e3631.length = e1192.length) ?_ ?_
            ·refine bk ?_
             refine lp hl3632 (fun s3635 a w => St M W H [K1157, K1131, K1120, K1115, K1112, K1109, K17, K14, H] [(4, Own.list ad1195 cap1196 3 1 (encI .i64) s3635.2), (2, cel b1158 133 [.slice ad10 r_2.words.length cap11, .int .i64 r_2.out, .int .i64 r_2.within, .map b1129, .slice ad1126 r1117.1.swaps.length cap1127, .slice none 0 0, .slice none 0 0, .slice (some ⟨b1156, 0, none⟩) ((List.replicate requests.length (0 : Int)).length) requests.length]), (1, Own.list (some ⟨b1156, 0, none⟩) requests.length 31 1 (encI .i64) (List.replicate requests.length (0 : Int)))] w ∧ Has [] 53 a [(0, .slice ad1195 e1192.length cap1196), (1, .int .i64 (s2995.1 : Int)), (2, .int .i64 (s2995.2.1 : Int)), (3, .func (.func 88) [].toArray [.pointer (some q1114)].toArray), (8, .int .i64 (s3635.1 : Int))] ∧ s3635.2.length = e1192.length) ?_ ?_
             ·intro a w hS hA
              exact ⟨hS, hA.cut ⟨rfl, rfl, rfl, rfl, rfl, tv⟩, hln2996⟩
             ·rintro j s3635 y3639 hr3637 hz3638 a w ⟨hS, hA, hln3636⟩
              refine TG.ap ?_ hS hA
              unfold m29_3 at hr3637
              refine sq (sq (rg (m1 rfl (m1 rfl (ltI rfl rfl rfl (on ?_))))))
              refine ci rfl (fun hc3643 => ?_) (fun hc3643 => ?_)
              ·have hr3644 := if_p hc3643 hr3637
               refine sk (sq (bk (sq (rg (m1 rfl (a1 rfl (on ?_)))))))
               obtain ⟨e3831, hl3832, hr3833⟩ := bd_some hr3644
               refine jn (fun a w => St M W H [K1157, K1131, K1120, K1115, K1112, K1109, K17, K14, H] [(4, Own.list ad1195 cap1196 3 1 (encI .i64) e3831), (2, cel b1158 133 [.slice ad10 r_2.words.length cap11, .int .i64 r_2.out, .int .i64 r_2.within, .map b1129, .slice ad1126 r1117.1.swaps.length cap1127, .slice none 0 0, .slice none 0 0, .slice (some ⟨b1156, 0, none⟩) ((List.replicate requests.length (0 : Int)).length) requests.length]), (1, Own.list (some ⟨b1156, 0, none⟩) requests.length 31 1 (encI .i64) (List.replicate requests.length (0 : Int)))] w ∧ Has [] 53 a [(0, .slice ad1195 e1192.length cap1196), (1, .int .i64 (s2995.1 : Int)), (2, .int .i64 (s2995.2.1 : Int)), (3, .func (.func 88) [].toArray [.pointer (some q1114)].toArray), (8, .int .i64 (s3635.1 : Int))] ∧ e3831.length = e1192.length) ?_ ?_
               ·refine bk ?_
                refine lp hl3832 (fun s3835 a w => St M W H [K1157, K1131, K1120, K1115, K1112, K1109, K17, K14, H] [(4, Own.list ad1195 cap1196 3 1 (encI .i64) s3835.2), (2, cel b1158 133 [.slice ad10 r_2.words.length cap11, .int .i64 r_2.out, .int .i64 r_2.within, .map b1129, .slice ad1126 r1117.1.swaps.length cap1127, .slice none 0 0, .slice none 0 0, .slice (some ⟨b1156, 0, none⟩) ((List.replicate requests.length (0 : Int)).length) requests.length]), (1, Own.list (some ⟨b1156, 0, none⟩) requests.length 31 1 (encI .i64) (List.replicate requests.length (0 : Int)))] w ∧ Has [] 53 a [(0, .slice ad1195 e1192.length cap1196), (1, .int .i64 (s2995.1 : Int)), (2, .int .i64 (s2995.2.1 : Int)), (3, .func (.func 88) [].toArray [.pointer (some q1114)].toArray), (8, .int .i64 (s3635.1 : Int)), (9, .int .i64 s3835.1)] ∧ s3835.2.length = e1192.length) ?_ ?_
                ·intro a w hS hA
                 exact ⟨hS, hA.cut ⟨rfl, rfl, rfl, rfl, rfl, rfl, tv⟩, hln3636⟩
                ·rintro j s3835 y3839 hr3837 hz3838 a w ⟨hS, hA, hln3836⟩
                 refine TG.ap ?_ hS hA
                 unfold m29_4 at hr3837
                 refine sq (sq ?_)
                 obtain ⟨t3861, hx3862, hr3863⟩ := bd_some hr3837
                 refine jn (fun a w => St M W H [K1157, K1131, K1120, K1115, K1112, K1109, K17, K14, H] [(4, Own.list ad1195 cap1196 3 1 (encI .i64) s3835.2), (2, cel b1158 133 [.slice ad10 r_2.words.length cap11, .int .i64 r_2.out, .int .i64 r_2.within, .map b1129, .slice ad1126 r1117.1.swaps.length cap1127, .slice none 0 0, .slice none 0 0, .slice (some ⟨b1156, 0, none⟩) ((List.replicate requests.length (0 : Int)).length) requests.length]), (1, Own.list (some ⟨b1156, 0, none⟩) requests.length 31 1 (encI .i64) (List.replicate requests.length (0 : Int)))] w ∧ Has [] 53 a [(0, .slice ad1195 e1192.length cap1196), (1, .int .i64 (s2995.1 : Int)), (2, .int .i64 (s2995.2.1 : Int)), (3, .func (.func 88) [].toArray [.pointer (some q1114)].toArray), (8, .int .i64 (s3635.1 : Int)), (9, .int .i64 s3835.1), (34, .bool t3861)]) ?_ ?_
                 ·by_cases hb3864 : (s2995.1 : Int) < s3835.1
                  ·have hr3865 := if_p hb3864 hx3862
                   obtain ⟨hk3866, hr3867⟩ := chk_some hr3865
                   obtain ⟨x3868, hx3869, hr3870⟩ := bd_some hr3867
                   refine TG.addr 4 rfl (lt_of0 hx3869) fun b3871 h => ?_; subst h
                   obtain ⟨hk3872, hr3873⟩ := chk_some hr3870
                   obtain ⟨hk3874, hr3875⟩ := chk_some hr3873
                   obtain ⟨x3876, hx3877, hr3878⟩ := bd_some hr3875
                   refine drG 14 mixed (by kernel_rfl) rfl (dt rfl (m1 rfl fin1) (dt rfl (m1 rfl fin1) (dt rfl (gtI rfl rfl rfl fin1) (dt rfl (m1 rfl fin1) (dt rfl (gt hb3864 rfl (m1 rfl fin1)) (dt rfl (gt hb3864 rfl (m1 rfl fin1)) (dt rfl (gt hb3864 rfl (m1 rfl fin1)) (dt rfl (gt hb3864 rfl (iaP U86 Z3 rfl rfl rfl (by omega) (Nat.lt_of_lt_of_eq (lt_of hx3869) hln3836) fin1)) (dt rfl (gt hb3864 rfl (ld G3 rfl rfl (sE 4 rfl (fun _ => rfl) hx3869) rfl fin1)) (dt rfl (gt hb3864 rfl (m1 rfl fin1)) (dt rfl (gt hb3864 rfl (m1 rfl fin1)) ?_)))))))))))
                   refine dt rfl (gt hb3864 rfl (sbI rfl rfl rfl hk3872 fin1)) (dt rfl (gt hb3864 rfl (iaP U86 Z3 rfl rfl rfl (by omega) (Nat.lt_of_lt_of_eq (lt_of hx3877) hln3836) fin1)) (dt rfl (gt hb3864 rfl (ld G3 rfl rfl (sE 4 rfl (fun _ => rfl) hx3877) rfl fin1)) (DF.nil fun K3879 hF => (gt hb3864 rfl ?_))))
                   obtain ⟨r3880, hx3881, hr3882⟩ := bd_some hr3878
                   refine clS C88 rfl rfl rfl rfl (fun w H hH le => w88 hH x3868 x3876 (f0_ := requests) (hK1116.mono (le.at 4 rfl)) (h_requests.mono (RRequest.mono) (le.at 9 rfl)) hx3881) (gt hb3864 rfl (ltI rfl rfl rfl (pt hb3864 rfl rfl (on ?_))))
                   cases hr3882
                   intro a w hS hA
                   exact ⟨hS.selH [1, 2, 3, 4, 5, 6, 7, 8, 9] rfl, hA.cut ⟨rfl, rfl, rfl, rfl, rfl, rfl, rfl, tv⟩⟩
                  ·have hr3883 := if_n hb3864 hx3862
                   refine drG 14 mixed (by kernel_rfl) rfl (dt rfl (m1 rfl fin1) (dt rfl (m1 rfl fin1) (dt rfl (gtI rfl rfl rfl fin1) (dt rfl (m1 rfl fin1) (dt rfl (gf hb3864 rfl fin1) (dt rfl (gf hb3864 rfl fin1) (dt rfl (gf hb3864 rfl fin1) (dt rfl (gf hb3864 rfl fin1) (dt rfl (gf hb3864 rfl fin1) (dt rfl (gf hb3864 rfl fin1) (dt rfl (gf hb3864 rfl fin1) ?_)))))))))))
                   refine dt rfl (gf hb3864 rfl fin1) (dt rfl (gf hb3864 rfl fin1) (dt rfl (gf hb3864 rfl fin1) (DF.nil fun K3884 hF => (gf hb3864 rfl (gf hb3864 rfl (pf hb3864 rfl rfl (on ?_)))))))
                   cases hr3883
                   intro a w hS hA
                   exact ⟨hS.selH [1, 2, 3, 4, 5, 6, 7, 8, 9] rfl, hA.cut ⟨rfl, rfl, rfl, rfl, rfl, rfl, rfl, tv⟩⟩
                 ·rintro a w ⟨hS, hA⟩
                  refine TG.ap ?_ hS hA
                  refine cb rfl (fun hc3888 => ?_) (fun hc3888 => ?_)
                  ·have hr3889 := if_p hc3888 hr3863
                   refine sk (sq (bk ?_))
                   obtain ⟨hk3909, hr3910⟩ := chk_some hr3889
                   obtain ⟨hk3911, hr3912⟩ := chk_some hr3910
                   obtain ⟨x3913, hx3914, hr3915⟩ := bd_some hr3912
                   refine TG.addr 4 rfl (lt_of0 hx3914) fun b3916 h => ?_; subst h
                   obtain ⟨hk3917, hr3918⟩ := chk_some hr3915
                   obtain ⟨x3919, hx3920, hr3921⟩ := bd_some hr3918
                   refine drG3 14 [] [(2, 39, .slice (some ⟨b3916, 0, none⟩) e1192.length cap1196), (3, 40, .int .i64 s3835.1), (4, 41, .int .i64 (s3835.1 - 1))] mixed (fun _ _ _ _ _ h => h) (by kernel_rfl) (by kernel_rfl) (by kernel_rfl) rfl (by kernel_rfl) (.cons rfl rfl rfl (fun _ => rfl) (by kernel_rfl) (by kernel_rfl) (fun _ _ => rfl) (mvY rfl) (.cons rfl rfl rfl (fun _ => rfl) (by kernel_rfl) (by kernel_rfl) (fun _ _ => rfl) (mvY rfl) (.cons rfl rfl rfl (fun _ => rfl) (by kernel_rfl) (by kernel_rfl) (fun _ _ => rfl) (sbIY rfl rfl hk3909) (.nil)))) (dc rfl (by kernel_rfl) tv rfl rfl (m1 rfl fin1) (dc rfl (by kernel_rfl) tv rfl rfl (m1 rfl fin1) (DC.pre (.head _) rfl (DC.pre (.tail _ (.head _)) rfl (DC.pre (.tail _ (.tail _ (.head _))) rfl (dc rfl (by kernel_rfl) tv rfl rfl (m1 rfl fin1) (dc rfl (by kernel_rfl) tv rfl rfl (m1 rfl fin1) (dc rfl (by kernel_rfl) tv rfl rfl (sbI rfl rfl rfl hk3909 fin1) (dc rfl (by kernel_rfl) tv rfl rfl (iaP U86 Z3 rfl rfl rfl (by omega) (Nat.lt_of_lt_of_eq (lt_of hx3914) hln3836) fin1) (dc rfl (by kernel_rfl) tv rfl rfl (ld G3 rfl rfl (sE 4 rfl (fun _ => rfl) hx3914) rfl fin1) (dc rfl (by kernel_rfl) tv rfl rfl (m1 rfl fin1) ?_)))))))))))
                   refine dc rfl (by kernel_rfl) tv rfl rfl (m1 rfl fin1) (dc rfl (by kernel_rfl) tv rfl rfl (iaP U86 Z3 rfl rfl rfl (by omega) (Nat.lt_of_lt_of_eq (lt_of hx3920) hln3836) fin1) (dc rfl (by kernel_rfl) tv rfl rfl (ld G3 rfl rfl (sE 4 rfl (fun _ => rfl) hx3920) rfl fin1) (DC.nil fun K3922 hF => (iaP U86 Z3 rfl rfl rfl (by omega) (Nat.lt_of_lt_of_eq (lt_of hx3920) hln3836) ?_))))
                   have hln3923 : (s3835.2.set s3835.1.toNat x3913).length = e1192.length := (lenS _ _ _).trans hln3836
                   refine stE 4 x3913 (q := ⟨b3916, 0, none⟩) (j := s3835.1.toNat) (size := 1) (cs := [.int .i64 x3913]) (off := 0) Z3 rfl rfl rfl (fun _ => rfl) hx3920 rfl rfl rfl rfl rfl ?_
                   obtain ⟨x3924, hx3925, hr3926⟩ := bd_some hr3921
                   refine iaP U86 Z3 rfl rfl rfl (by omega) (Nat.lt_of_lt_of_eq (lt_of hx3925) hln3923) ?_
                   have hln3927 : ((s3835.2.set s3835.1.toNat x3913).set ((s3835.1 - 1).toNat) x3919).length = e1192.length := (lenS _ _ _).trans hln3923
                   refine stE 4 x3919 (q := ⟨b3916, 0, none⟩) (j := (s3835.1 - 1).toNat) (size := 1) (cs := [.int .i64 x3919]) (off := 0) Z3 rfl rfl rfl (fun _ => rfl) hx3925 rfl rfl rfl rfl rfl (on (rg (m1 rfl (sbI rfl rfl rfl hk3909 (a1 rfl (on ?_))))))
                   cases hr3926
                   intro a w hS hA
                   exact ⟨_, hz3838, hS.selH [1, 2, 3, 4, 5, 6, 7, 8, 9] rfl, hA.cut ⟨rfl, rfl, rfl, rfl, rfl, rfl, tv⟩, hln3927⟩
                  ·have hr3928 := if_f hc3888 hr3863
                   refine xt rfl ?_
                   cases hr3928
                   obtain rfl := Fin.out hz3838
                   intro a w hS hA
                   exact ⟨hS, hA.cut ⟨rfl, rfl, rfl, rfl, rfl, tv⟩, hln3836⟩
               ·rintro a w ⟨hS, hA, hln3834⟩
                refine TG.ap ?_ hS hA
                refine rg (m1 rfl ?_)
                obtain ⟨hk3929, hr3930⟩ := chk_some hr3833
                refine adI rfl rfl rfl hk3929 (a1 rfl (on ?_))
                cases hr3930
                intro a w hS hA
                exact ⟨_, hz3638, hS, hA.cut ⟨rfl, rfl, rfl, rfl, rfl, tv⟩, hln3834⟩
              ·have hr3931 := if_n hc3643 hr3637
               refine xt rfl ?_
               cases hr3931
               obtain rfl := Fin.out hz3638
               intro a w hS hA
               exact ⟨hS, hA.cut tv, hln3636⟩
            ·rintro a w ⟨hS, hA, hln3634⟩
             refine TG.ap ?_ hS hA
             cases hr3633
             intro a w hS hA
             refine ret0 hA rfl ?_
             exact ⟨_, rfl, ⟨rfl, hS, hln3634⟩⟩
           ·rintro a w v hA (⟨rfl, hS, hln3426⟩)
            refine putK rfl hA hS (on (sq (rg (m1 rfl (a1 rfl (on (rg (m1 rfl (m1 rfl ?_)))))))))
            obtain ⟨hk3932, hr3933⟩ := chk_some hr3425
            refine adI rfl rfl rfl hk3932 (a1 rfl (on ?_))
            cases hr3933
            intro a w hS hA
            exact ⟨_, hz2998, hS, hA.cut ⟨rfl, rfl, rfl, rfl, rfl, rfl, tv⟩, hln3426⟩
          ·have hr3934 := if_n hc3003 hr2997
           refine xt rfl ?_
           cases hr3934
           obtain rfl := Fin.out hz2998
           intro a w hS hA
           exact ⟨hS, hA.cut ⟨rfl, rfl, rfl, rfl, rfl, tv⟩, hln2996⟩
        ·rintro a w ⟨hS, hA, hln2994⟩
         refine TG.ap ?_ hS hA
         refine sq (rg (m1 rfl (m1 rfl (m1 rfl (m1 rfl ?_)))))
         obtain ⟨t4137, hx4138, hr4139⟩ := bd_some hr2993
         refine clI C122 Tryz.func122 rfl Tryz.ntmps122 rfl rfl rfl rfl (fun v w => (v = .tuple #[] ∧ St M W H [K1157, K1131, K1120, K1115, K1112, K1109, K17, K14, H] [(4, Own.list ad1195 cap1196 3 1 (encI .i64) t4137), (2, cel b1158 133 [.slice ad10 r_2.words.length cap11, .int .i64 r_2.out, .int .i64 r_2.within, .map b1129, .slice ad1126 r1117.1.swaps.length cap1127, .slice none 0 0, .slice none 0 0, .slice (some ⟨b1156, 0, none⟩) ((List.replicate requests.length (0 : Int)).length) requests.length]), (1, Own.list (some ⟨b1156, 0, none⟩) requests.length 31 1 (encI .i64) (List.replicate requests.length (0 : Int)))] w ∧ t4137.length = e1192.length)) ?_ ?_
         ·refine sq (rg (m1 rfl ?_))
          obtain ⟨hk4141, hr4142⟩ := chk_some hx4138
          refine adI rfl rfl rfl hk4141 (a1 rfl (on ?_))
          obtain ⟨e4341, hl4342, hr4343⟩ := bd_some hr4142
          refine jn (fun a w => St M W H [K1157, K1131, K1120, K1115, K1112, K1109, K17, K14, H] [(4, Own.list ad1195 cap1196 3 1 (encI .i64) e4341), (2, cel b1158 133 [.slice ad10 r_2.words.length cap11, .int .i64 r_2.out, .int .i64 r_2.within, .map b1129, .slice ad1126 r1117.1.swaps.length cap1127, .slice none 0 0, .slice none 0 0, .slice (some ⟨b1156, 0, none⟩) ((List.replicate requests.length (0 : Int)).length) requests.length]), (1, Own.list (some ⟨b1156, 0, none⟩) requests.length 31 1 (encI .i64) (List.replicate requests.length (0 : Int)))] w ∧ Has [] 53 a [] ∧ e4341.length = e1192.length) ?_ ?_
          ·refine bk ?_
           refine lp hl4342 (fun s4345 a w => St M W H [K1157, K1131, K1120, K1115, K1112, K1109, K17, K14, H] [(4, Own.list ad1195 cap1196 3 1 (encI .i64) s4345.2), (2, cel b1158 133 [.slice ad10 r_2.words.length cap11, .int .i64 r_2.out, .int .i64 r_2.within, .map b1129, .slice ad1126 r1117.1.swaps.length cap1127, .slice none 0 0, .slice none 0 0, .slice (some ⟨b1156, 0, none⟩) ((List.replicate requests.length (0 : Int)).length) requests.length]), (1, Own.list (some ⟨b1156, 0, none⟩) requests.length 31 1 (encI .i64) (List.replicate requests.length (0 : Int)))] w ∧ Has [] 53 a [(0, .slice ad1195 e1192.length cap1196), (1, .int .i64 (e2991.1 : Int)), (2, .int .i64 (e1192.length : Int)), (3, .func (.func 88) [].toArray [.pointer (some q1114)].toArray), (8, .int .i64 (s4345.1 : Int))] ∧ s4345.2.length = e1192.length) ?_ ?_
           ·intro a w hS hA
            exact ⟨hS, hA.cut ⟨rfl, rfl, rfl, rfl, rfl, tv⟩, hln2994⟩
           ·rintro j s4345 y4349 hr4347 hz4348 a w ⟨hS, hA, hln4346⟩
            refine TG.ap ?_ hS hA
            unfold m29_5 at hr4347
            refine sq (sq (rg (m1 rfl (m1 rfl (ltI rfl rfl rfl (on ?_))))))
            refine ci rfl (fun hc4353 => ?_) (fun hc4353 => ?_)
            ·have hr4354 := if_p hc4353 hr4347
             refine sk (sq (bk (sq (rg (m1 rfl (a1 rfl (on ?_)))))))
             obtain ⟨e4541, hl4542, hr4543⟩ := bd_some hr4354
             refine jn (fun a w => St M W H [K1157, K1131, K1120, K1115, K1112, K1109, K17, K14, H] [(4, Own.list ad1195 cap1196 3 1 (encI .i64) e4541), (2, cel b1158 133 [.slice ad10 r_2.words.length cap11, .int .i64 r_2.out, .int .i64 r_2.within, .map b1129, .slice ad1126 r1117.1.swaps.length cap1127, .slice none 0 0, .slice none 0 0, .slice (some ⟨b1156, 0, none⟩) ((List.replicate requests.length (0 : Int)).length) requests.length]), (1, Own.list (some ⟨b1156, 0, none⟩) requests.length 31 1 (encI .i64) (List.replicate requests.length (0 : Int)))] w ∧ Has [] 53 a [(0, .slice ad1195 e1192.length cap1196), (1, .int .i64 (e2991.1 : Int)), (2, .int .i64 (e1192.length : Int)), (3, .func (.func 88) [].toArray [.pointer (some q1114)].toArray), (8, .int .i64 (s4345.1 : Int))] ∧ e4541.length = e1192.length) ?_ ?_
             ·refine bk ?_
              refine lp hl4542 (fun s4545 a w => St M W H [K1157, K1131, K1120, K1115, K1112, K1109, K17, K14, H] [(4, Own.list ad1195 cap1196 3 1 (encI .i64) s4545.2), (2, cel b1158 133 [.slice ad10 r_2.words.length cap11, .int .i64 r_2.out, .int .i64 r_2.within, .map b1129, .slice ad1126 r1117.1.swaps.length cap1127, .slice none 0 0, .slice none 0 0, .slice (some ⟨b1156, 0, none⟩) ((List.replicate requests.length (0 : Int)).length) requests.length]), (1, Own.list (some ⟨b1156, 0, none⟩) requests.length 31 1 (encI .i64) (List.replicate requests.length (0 : Int)))] w ∧ Has [] 53 a [(0, .slice ad1195 e1192.length cap1196), (1, .int .i64 (e2991.1 : Int)), (2, .int .i64 (e1192.length : Int)), (3, .func (.func 88) [].toArray [.pointer (some q1114)].toArray), (8, .int .i64 (s4345.1 : Int)), (9, .int .i64 s4545.1)] ∧ s4545.2.length = e1192.length) ?_ ?_
              ·intro a w hS hA
               exact ⟨hS, hA.cut ⟨rfl, rfl, rfl, rfl, rfl, rfl, tv⟩, hln4346⟩
              ·rintro j s4545 y4549 hr4547 hz4548 a w ⟨hS, hA, hln4546⟩
               refine TG.ap ?_ hS hA
               unfold m29_6 at hr4547
               refine sq (sq ?_)
               obtain ⟨t4571, hx4572, hr4573⟩ := bd_some hr4547
               refine jn (fun a w => St M W H [K1157, K1131, K1120, K1115, K1112, K1109, K17, K14, H] [(4, Own.list ad1195 cap1196 3 1 (encI .i64) s4545.2), (2, cel b1158 133 [.slice ad10 r_2.words.length cap11, .int .i64 r_2.out, .int .i64 r_2.within, .map b1129, .slice ad1126 r1117.1.swaps.length cap1127, .slice none 0 0, .slice none 0 0, .slice (some ⟨b1156, 0, none⟩) ((List.replicate requests.length (0 : Int)).length) requests.length]), (1, Own.list (some ⟨b1156, 0, none⟩) requests.length 31 1 (encI .i64) (List.replicate requests.length (0 : Int)))] w ∧ Has [] 53 a [(0, .slice ad1195 e1192.length cap1196), (1, .int .i64 (e2991.1 : Int)), (2, .int .i64 (e1192.length : Int)), (3, .func (.func 88) [].toArray [.pointer (some q1114)].toArray), (8, .int .i64 (s4345.1 : Int)), (9, .int .i64 s4545.1), (34, .bool t4571)]) ?_ ?_
               ·by_cases hb4574 : (e2991.1 : Int) < s4545.1
                ·have hr4575 := if_p hb4574 hx4572
                 obtain ⟨hk4576, hr4577⟩ := chk_some hr4575
                 obtain ⟨x4578, hx4579, hr4580⟩ := bd_some hr4577
                 refine TG.addr 4 rfl (lt_of0 hx4579) fun b4581 h => ?_; subst h
                 obtain ⟨hk4582, hr4583⟩ := chk_some hr4580
                 obtain ⟨hk4584, hr4585⟩ := chk_some hr4583
                 obtain ⟨x4586, hx4587, hr4588⟩ := bd_some hr4585
                 refine drG 14 mixed (by kernel_rfl) rfl (dt rfl (m1 rfl fin1) (dt rfl (m1 rfl fin1) (dt rfl (gtI rfl rfl rfl fin1) (dt rfl (m1 rfl fin1) (dt rfl (gt hb4574 rfl (m1 rfl fin1)) (dt rfl (gt hb4574 rfl (m1 rfl fin1)) (dt rfl (gt hb4574 rfl (m1 rfl fin1)) (dt rfl (gt hb4574 rfl (iaP U86 Z3 rfl rfl rfl (by omega) (Nat.lt_of_lt_of_eq (lt_of hx4579) hln4546) fin1)) (dt rfl (gt hb4574 rfl (ld G3 rfl rfl (sE 4 rfl (fun _ => rfl) hx4579) rfl fin1)) (dt rfl (gt hb4574 rfl (m1 rfl fin1)) (dt rfl (gt hb4574 rfl (m1 rfl fin1)) ?_)))))))))))
                 refine dt rfl (gt hb4574 rfl (sbI rfl rfl rfl hk4582 fin1)) (dt rfl (gt hb4574 rfl (iaP U86 Z3 rfl rfl rfl (by omega) (Nat.lt_of_lt_of_eq (lt_of hx4587) hln4546) fin1)) (dt rfl (gt hb4574 rfl (ld G3 rfl rfl (sE 4 rfl (fun _ => rfl) hx4587) rfl fin1)) (DF.nil fun K4589 hF => (gt hb4574 rfl ?_))))
                 obtain ⟨r4590, hx4591, hr4592⟩ := bd_some hr4588
                 refine clS C88 rfl rfl rfl rfl (fun w H hH le => w88 hH x4578 x4586 (f0_ := requests) (hK1116.mono (le.at 4 rfl)) (h_requests.mono (RRequest.mono) (le.at 9 rfl)) hx4591) (gt hb4574 rfl (ltI rfl rfl rfl (pt hb4574 rfl rfl (on ?_))))
                 cases hr4592
                 intro a w hS hA
                 exact ⟨hS.selH [1, 2, 3, 4, 5, 6, 7, 8, 9] rfl, hA.cut ⟨rfl, rfl, rfl, rfl, rfl, rfl, rfl, tv⟩⟩
                ·have hr4593 := if_n hb4574 hx4572
                 refine drG 14 mixed (by kernel_rfl) rfl (dt rfl (m1 rfl fin1) (dt rfl (m1 rfl fin1) (dt rfl (gtI rfl rfl rfl fin1) (dt rfl (m1 rfl fin1) (dt rfl (gf hb4574 rfl fin1) (dt rfl (gf hb4574 rfl fin1) (dt rfl (gf hb4574 rfl fin1) (dt rfl (gf hb4574 rfl fin1) (dt rfl (gf hb4574 rfl fin1) (dt rfl (gf hb4574 rfl fin1) (dt rfl (gf hb4574 rfl fin1) ?_)))))))))))
                 refine dt rfl (gf hb4574 rfl fin1) (dt rfl (gf hb4574 rfl fin1) (dt rfl (gf hb4574 rfl fin1) (DF.nil fun K4594 hF => (gf hb4574 rfl (gf hb4574 rfl (pf hb4574 rfl rfl (on ?_)))))))
                 cases hr4593
                 intro a w hS hA
                 exact ⟨hS.selH [1, 2, 3, 4, 5, 6, 7, 8, 9] rfl, hA.cut ⟨rfl, rfl, rfl, rfl, rfl, rfl, rfl, tv⟩⟩
               ·rintro a w ⟨hS, hA⟩
                refine TG.ap ?_ hS hA
                refine cb rfl (fun hc4598 => ?_) (fun hc4598 => ?_)
                ·have hr4599 := if_p hc4598 hr4573
                 refine sk (sq (bk ?_))
                 obtain ⟨hk4619, hr4620⟩ := chk_some hr4599
                 obtain ⟨hk4621, hr4622⟩ := chk_some hr4620
                 obtain ⟨x4623, hx4624, hr4625⟩ := bd_some hr4622
                 refine TG.addr 4 rfl (lt_of0 hx4624) fun b4626 h => ?_; subst h
                 obtain ⟨hk4627, hr4628⟩ := chk_some hr4625
                 obtain ⟨x4629, hx4630, hr4631⟩ := bd_some hr4628
                 refine drG3 14 [] [(2, 39, .slice (some ⟨b4626, 0, none⟩) e1192.length cap1196), (3, 40, .int .i64 s4545.1), (4, 41, .int .i64 (s4545.1 - 1))] mixed (fun _ _ _ _ _ h => h) (by kernel_rfl) (by kernel_rfl) (by kernel_rfl) rfl (by kernel_rfl) (.cons rfl rfl rfl (fun _ => rfl) (by kernel_rfl) (by kernel_rfl) (fun _ _ => rfl) (mvY rfl) (.cons rfl rfl rfl (fun _ => rfl) (by kernel_rfl) (by kernel_rfl) (fun _ _ => rfl) (mvY rfl) (.cons rfl rfl rfl (fun _ => rfl) (by kernel_rfl) (by kernel_rfl) (fun _ _ => rfl) (sbIY rfl rfl hk4619) (.nil)))) (dc rfl (by kernel_rfl) tv rfl rfl (m1 rfl fin1) (dc rfl (by kernel_rfl) tv rfl rfl (m1 rfl fin1) (DC.pre (.head _) rfl (DC.pre (.tail _ (.head _)) rfl (DC.pre (.tail _ (.tail _ (.head _))) rfl (dc rfl (by kernel_rfl) tv rfl rfl (m1 rfl fin1) (dc rfl (by kernel_rfl) tv rfl rfl (m1 rfl fin1) (dc rfl (by kernel_rfl) tv rfl rfl (sbI rfl rfl rfl hk4619 fin1) (dc rfl (by kernel_rfl) tv rfl rfl (iaP U86 Z3 rfl rfl rfl (by omega) (Nat.lt_of_lt_of_eq (lt_of hx4624) hln4546) fin1) (dc rfl (by kernel_rfl) tv rfl rfl (ld G3 rfl rfl (sE 4 rfl (fun _ => rfl) hx4624) rfl fin1) (dc rfl (by kernel_rfl) tv rfl rfl (m1 rfl fin1) ?_)))))))))))
                 refine dc rfl (by kernel_rfl) tv rfl rfl (m1 rfl fin1) (dc rfl (by kernel_rfl) tv rfl rfl (iaP U86 Z3 rfl rfl rfl (by omega) (Nat.lt_of_lt_of_eq (lt_of hx4630) hln4546) fin1) (dc rfl (by kernel_rfl) tv rfl rfl (ld G3 rfl rfl (sE 4 rfl (fun _ => rfl) hx4630) rfl fin1) (DC.nil fun K4632 hF => (iaP U86 Z3 rfl rfl rfl (by omega) (Nat.lt_of_lt_of_eq (lt_of hx4630) hln4546) ?_))))
                 have hln4633 : (s4545.2.set s4545.1.toNat x4623).length = e1192.length := (lenS _ _ _).trans hln4546
                 refine stE 4 x4623 (q := ⟨b4626, 0, none⟩) (j := s4545.1.toNat) (size := 1) (cs := [.int .i64 x4623]) (off := 0) Z3 rfl rfl rfl (fun _ => rfl) hx4630 rfl rfl rfl rfl rfl ?_
                 obtain ⟨x4634, hx4635, hr4636⟩ := bd_some hr4631
                 refine iaP U86 Z3 rfl rfl rfl (by omega) (Nat.lt_of_lt_of_eq (lt_of hx4635) hln4633) ?_
                 have hln4637 : ((s4545.2.set s4545.1.toNat x4623).set ((s4545.1 - 1).toNat) x4629).length = e1192.length := (lenS _ _ _).trans hln4633
                 refine stE 4 x4629 (q := ⟨b4626, 0, none⟩) (j := (s4545.1 - 1).toNat) (size := 1) (cs := [.int .i64 x4629]) (off := 0) Z3 rfl rfl rfl (fun _ => rfl) hx4635 rfl rfl rfl rfl rfl (on (rg (m1 rfl (sbI rfl rfl rfl hk4619 (a1 rfl (on ?_))))))
                 cases hr4636
                 intro a w hS hA
                 exact ⟨_, hz4548, hS.selH [1, 2, 3, 4, 5, 6, 7, 8, 9] rfl, hA.cut ⟨rfl, rfl, rfl, rfl, rfl, rfl, tv⟩, hln4637⟩
                ·have hr4638 := if_f hc4598 hr4573
                 refine xt rfl ?_
                 cases hr4638
                 obtain rfl := Fin.out hz4548
                 intro a w hS hA
                 exact ⟨hS, hA.cut ⟨rfl, rfl, rfl, rfl, rfl, tv⟩, hln4546⟩
             ·rintro a w ⟨hS, hA, hln4544⟩
              refine TG.ap ?_ hS hA
              refine rg (m1 rfl (adI rfl rfl rfl (by omega) (a1 rfl (on ?_))))
              cases hr4543
              intro a w hS hA
              exact ⟨_, hz4348, hS, hA.cut ⟨rfl, rfl, rfl, rfl, rfl, tv⟩, hln4544⟩
            ·have hr4639 := if_n hc4353 hr4347
             refine xt rfl ?_
             cases hr4639
             obtain rfl := Fin.out hz4348
             intro a w hS hA
             exact ⟨hS, hA.cut tv, hln4346⟩
          ·rintro a w ⟨hS, hA, hln4344⟩
           refine TG.ap ?_ hS hA
           cases hr4343
           intro a w hS hA
           refine ret0 hA rfl ?_
           exact ⟨_, rfl, ⟨rfl, hS, hln4344⟩⟩
         ·rintro a w v hA (⟨rfl, hS, hln4140⟩)
          refine putK rfl hA hS (on ?_)
          obtain ⟨e4660, hl4661, hr4662⟩ := bd_some hr4139
          refine jn (fun a w => St M W H [K1157, K1131, K1120, K1115, K1112, K1109, K17, K14, H] [(4, Own.list ad1195 cap1196 3 1 (encI .i64) t4137), (2, cel b1158 133 [.slice ad10 r_2.words.length cap11, .int .i64 r_2.out, .int .i64 r_2.within, .map b1129, .slice ad1126 r1117.1.swaps.length cap1127, .slice none 0 0, .slice none 0 0, .slice (some ⟨b1156, 0, none⟩) ((List.replicate requests.length (0 : Int)).length) requests.length]), (1, Own.list (some ⟨b1156, 0, none⟩) requests.length 31 1 (encI .i64) (List.replicate requests.length (0 : Int)))] w ∧ Has [] 63 a []) ?_ ?_
          ·refine bk ?_
           refine lp hl4661 (fun s4663 a w => St M W H [K1157, K1131, K1120, K1115, K1112, K1109, K17, K14, H] [(4, Own.list ad1195 cap1196 3 1 (encI .i64) t4137), (2, cel b1158 133 [.slice ad10 r_2.words.length cap11, .int .i64 r_2.out, .int .i64 r_2.within, .map b1129, .slice ad1126 r1117.1.swaps.length cap1127, .slice none 0 0, .slice none 0 0, .slice (some ⟨b1156, 0, none⟩) ((List.replicate requests.length (0 : Int)).length) requests.length]), (1, Own.list (some ⟨b1156, 0, none⟩) requests.length 31 1 (encI .i64) (List.replicate requests.length (0 : Int)))] w ∧ Has [] 63 a [(0, .slice ad1195 e1192.length cap1196), (1, .int .i64 (e1192.length : Int)), (2, .func (.func 88) [].toArray [.pointer (some q1114)].toArray), (6, .int .i64 s4663)]) ?_ ?_
           ·exact cu ⟨rfl, rfl, rfl, rfl, tv⟩
           ·rintro j s4663 y4666 hr4664 hz4665 a w ⟨hS, hA⟩
            refine TG.ap ?_ hS hA
            unfold m29_7 at hr4664
            refine sq (sq (rg (m1 rfl (m1 rfl (ltI rfl rfl rfl (on ?_))))))
            refine ci rfl (fun hc4670 => ?_) (fun hc4670 => ?_)
            ·have hr4671 := if_p hc4670 hr4664
             refine sk (bk (sq (rg (m1 rfl ?_))))
             obtain ⟨hk4688, hr4689⟩ := chk_some hr4671
             refine mlI rfl rfl rfl hk4688 (a1 rfl (a1 rfl (on (sq ?_))))
             obtain ⟨e4696, hl4697, hr4698⟩ := bd_some hr4689
             refine jn (fun a w => St M W H [K1157, K1131, K1120, K1115, K1112, K1109, K17, K14, H] [(4, Own.list ad1195 cap1196 3 1 (encI .i64) t4137), (2, cel b1158 133 [.slice ad10 r_2.words.length cap11, .int .i64 r_2.out, .int .i64 r_2.within, .map b1129, .slice ad1126 r1117.1.swaps.length cap1127, .slice none 0 0, .slice none 0 0, .slice (some ⟨b1156, 0, none⟩) ((List.replicate requests.length (0 : Int)).length) requests.length]), (1, Own.list (some ⟨b1156, 0, none⟩) requests.length 31 1 (encI .i64) (List.replicate requests.length (0 : Int)))] w ∧ Has [] 63 a [(0, .slice ad1195 e1192.length cap1196), (1, .int .i64 (e1192.length : Int)), (2, .func (.func 88) [].toArray [.pointer (some q1114)].toArray), (6, .int .i64 s4663), (7, .int .i64 (e4696 : Int))]) ?_ ?_
             ·refine bk ?_
              refine lp hl4697 (fun s4699 a w => St M W H [K1157, K1131, K1120, K1115, K1112, K1109, K17, K14, H] [(4, Own.list ad1195 cap1196 3 1 (encI .i64) t4137), (2, cel b1158 133 [.slice ad10 r_2.words.length cap11, .int .i64 r_2.out, .int .i64 r_2.within, .map b1129, .slice ad1126 r1117.1.swaps.length cap1127, .slice none 0 0, .slice none 0 0, .slice (some ⟨b1156, 0, none⟩) ((List.replicate requests.length (0 : Int)).length) requests.length]), (1, Own.list (some ⟨b1156, 0, none⟩) requests.length 31 1 (encI .i64) (List.replicate requests.length (0 : Int)))] w ∧ Has [] 63 a [(0, .slice ad1195 e1192.length cap1196), (1, .int .i64 (e1192.length : Int)), (2, .func (.func 88) [].toArray [.pointer (some q1114)].toArray), (6, .int .i64 s4663), (7, .int .i64 (s4699.1 : Int)), (8, .int .i64 s4699.2)]) ?_ ?_
              ·exact cu ⟨rfl, rfl, rfl, rfl, rfl, rfl, tv⟩
              ·rintro j s4699 y4702 hr4700 hz4701 a w ⟨hS, hA⟩
               refine TG.ap ?_ hS hA
               unfold m29_8 at hr4700
               refine sq (sq (rg (m1 rfl (m1 rfl (leI rfl rfl rfl (on ?_))))))
               refine ci rfl (fun hc4706 => ?_) (fun hc4706 => ?_)
               ·have hr4707 := if_p hc4706 hr4700
                refine sk (bk (sq (rg (m1 rfl (m1 rfl (m1 rfl (m1 rfl ?_)))))))
                obtain ⟨hk4710, hr4711⟩ := chk_some hr4707
                refine adI rfl rfl rfl hk4710 (m1 rfl (m1 rfl ?_))
                cases hr4711
               ·have hr4712 := if_n hc4706 hr4700
                refine xt rfl ?_
                cases hr4712
                obtain rfl := Fin.out hz4701
                exact cu ⟨rfl, rfl, rfl, rfl, rfl, tv⟩
             ·rintro a w ⟨hS, hA⟩
              refine TG.ap ?_ hS hA
              refine sq (sq (rg (m1 rfl (m1 rfl ?_))))
              obtain ⟨hk4713, hr4714⟩ := chk_some hr4698
              refine adI rfl rfl rfl hk4713 (a1 rfl (on (sq (rg (m1 rfl (m1 rfl (ltI rfl rfl rfl (on ?_))))))))
              refine ci rfl (fun hc4718 => ?_) (fun hc4718 => ?_)
              ·have hr4719 := if_p hc4718 hr4714
               refine rg (m1 rfl (m1 rfl (m1 rfl (m1 rfl (m1 rfl ?_)))))
               cases hr4719
              ·have hr4720 := if_n hc4718 hr4714
               refine sk (rg (m1 rfl ?_))
               obtain ⟨hk4721, hr4722⟩ := chk_some hr4720
               refine mlI rfl rfl rfl hk4721 (a1 rfl (on ?_))
               cases hr4722
               intro a w hS hA
               exact ⟨_, hz4665, hS, hA.cut ⟨rfl, rfl, rfl, rfl, tv⟩⟩
            ·have hr4723 := if_n hc4670 hr4664
             refine xt rfl ?_
             cases hr4723
             obtain rfl := Fin.out hz4665
             exact cu tv
          ·rintro a w ⟨hS, hA⟩
           refine TG.ap ?_ hS hA
           cases hr4662
           intro a w hS hA
           refine ret0 hA rfl ?_
           exact ⟨_, rfl, ⟨rfl, hS, hln4140⟩⟩
       ·rintro a w v hA (⟨rfl, hS, hln2556⟩)
        refine putK rfl hA hS (on ?_)
        cases hr2555
        intro a w hS hA
        refine ret0 hA rfl ?_
        exact ⟨_, rfl, ⟨rfl, hS, hln2556⟩⟩
      ·rintro a w v hA (⟨rfl, hS, hln1889⟩)
       refine putK rfl hA hS (on (sq (sq (rg (m1 rfl (TG.len 4 rfl fun _ => (lnL U86 rfl rfl (m1 rfl (on (TG.nilRow 7 63 5 ?_))))))))))
       have hR4837 : Rows (RRequest) 5 H [] ([] : List Request) := tv
       refine TG.nilRow 8 3 1 (TG.as 8 (z := Own.list none 0 3 1 (encI .i64) ([] : List Int)) rfl rfl (TG.as 7 (z := Own.rows none 0 63 5 [] ([] : List Request)) rfl rfl ?_))
       obtain ⟨e5013, hl5014, hr5015⟩ := bd_some hr1888
       refine jn (fun a w => ∃ (ad5016 : Option Addr) (cap5017 : Nat) (ad5018 : Option Addr) (cap5019 : Nat) (css5020 : List (List Value)) (K5021 : Hp), St M W H [K5021, K1157, K1131, K1120, K1115, K1112, K1109, K17, K14, H] [(8, Own.list ad5016 cap5017 3 1 (encI .i64) e5013.1), (7, Own.rows ad5018 cap5019 63 5 css5020 e5013.2.1), (4, Own.list ad1195 cap1196 3 1 (encI .i64) t1886), (2, cel b1158 133 [.slice ad10 r_2.words.length cap11, .int .i64 r_2.out, .int .i64 r_2.within, .map b1129, .slice ad1126 r1117.1.swaps.length cap1127, .slice ad5018 e5013.2.1.length cap5019, .slice ad5016 e5013.1.length cap5017, .slice (some ⟨b1156, 0, none⟩) ((List.replicate requests.length (0 : Int)).length) requests.length]), (1, Own.list (some ⟨b1156, 0, none⟩) requests.length 31 1 (encI .i64) e5013.2.2)] w ∧ Has [] 106 a [(13, .pointer (some (⟨b1158, 0, none⟩)))] ∧ Rows (RRequest) 5 K5021 css5020 e5013.2.1 ∧ e5013.2.2.length = (List.replicate requests.length (0 : Int)).length) ?_ ?_
       ·refine bk ?_
        refine lp hl5014 (fun s5024 a w => ∃ (ad5025 : Option Addr) (cap5026 : Nat) (ad5027 : Option Addr) (cap5028 : Nat) (css5029 : List (List Value)) (K5030 : Hp), St M W H [K5030, K1157, K1131, K1120, K1115, K1112, K1109, K17, K14, H] [(8, Own.list ad5025 cap5026 3 1 (encI .i64) s5024.2.1), (7, Own.rows ad5027 cap5028 63 5 css5029 s5024.2.2.1), (4, Own.list ad1195 cap1196 3 1 (encI .i64) t1886), (2, cel b1158 133 [.slice ad10 r_2.words.length cap11, .int .i64 r_2.out, .int .i64 r_2.within, .map b1129, .slice ad1126 r1117.1.swaps.length cap1127, .slice ad5027 s5024.2.2.1.length cap5028, .slice ad5025 s5024.2.1.length cap5026, .slice (some ⟨b1156, 0, none⟩) ((List.replicate requests.length (0 : Int)).length) requests.length]), (1, Own.list (some ⟨b1156, 0, none⟩) requests.length 31 1 (encI .i64) s5024.2.2.2)] w ∧ Has [] 106 a [(7, .pointer (some q1114)), (13, .pointer (some (⟨b1158, 0, none⟩))), (55, .slice ad1195 e1192.length cap1196), (56, .int .i64 (e1192.length : Int)), (57, .int .i64 (s5024.1 : Int))] ∧ Rows (RRequest) 5 K5030 css5029 s5024.2.2.1 ∧ s5024.2.2.2.length = (List.replicate requests.length (0 : Int)).length) ?_ ?_
        ·intro a w hS hA
         exact ⟨none, 0, none, 0, [], H, hS.selH [8, 0, 1, 2, 3, 4, 5, 6, 7, 8] rfl, hA.cut ⟨rfl, rfl, rfl, rfl, rfl, tv⟩, hR4837, rfl⟩
        ·rintro j s5024 y5035 hr5033 hz5034 a w ⟨ad5025, cap5026, ad5027, cap5028, css5029, K5030, hS, hA, hR5031, hln5032⟩
         refine TG.ap ?_ hS hA
         unfold m29_9 at hr5033
         refine sq (rg (ltI rfl rfl rfl (on (sq ?_))))
         refine ci rfl (fun hc5039 => ?_) (fun hc5039 => ?_)
         ·have hr5040 := if_p hc5039 hr5033
          refine sk (sq (bk (sq (rg ?_))))
          obtain ⟨x5113, hx5114, hr5115⟩ := bd_some hr5040
          refine TG.addr 4 rfl (lt_of0 hx5114) fun b5116 h => ?_; subst h
          refine iaP U86 Z3 rfl rfl rfl rfl (Nat.lt_of_lt_of_eq (lt_of hx5114) hln1889) (ld G3 rfl rfl (sE 4 rfl (fun _ => rfl) hx5114) rfl (a1 rfl (on (sq ?_))))
          obtain ⟨hk5117, hr5118⟩ := chk_some hr5115
          obtain ⟨x5119, hx5120, hr5121⟩ := bd_some hr5118
          obtain ⟨p5122, rfl⟩ := h_requests.adr hx5120
          obtain ⟨cs5123, hcs5124, hq5125, hr5126⟩ := h_requests.at hx5120
          have hr5127 := hr5126
          obtain ⟨ad5128, cap5129, rfl, hl5130⟩ := hr5126
          have := hl5130.len
          obtain ⟨r5131, hx5132, hr5133⟩ := bd_some hr5121
          refine drG 11 mixed (by kernel_rfl) rfl (dt rfl (m1 rfl fin1) (dt rfl (nl rfl rfl fin1) (dt rfl (fb 7 U133 rfl rfl rfl rfl Z59 fin1) (dt rfl (ld G59 rfl rfl ((sO 2 rfl).drop 7) rfl fin1) (dt rfl (m1 rfl fin1) (dt rfl (m1 rfl fin1) (dt rfl (ld G64 rfl rfl (sS 5 rfl hK1116) rfl fin1) (dt rfl (m1 rfl fin1) (dt rfl (iaP U64 Z63 rfl rfl rfl (by omega) (lt_of hx5120) fin1) (dt rfl (ldA G63 Z63 rfl rfl (sS 10 rfl hq5125) rfl fin1) (dt rfl (clL C90 rfl rfl rfl rfl (fun w hS => w90 (Hp.le.refl (hp w)) (hg.mono (hS.hp 10 rfl)) (⟨r_2, r1117.1, s5024.2.2.1, s5024.2.1, s5024.2.2.2⟩ : decided) (cell_at (hS.get (t := 2) rfl)) ⟨ad10, cap11, (.map b1129), ad1126, cap1127, ad5027, cap5028, ad5025, cap5026, (some ⟨b1156, 0, none⟩), requests.length, (by simp only [hln5032]), (hl12.mono (Flat.mono _) (hS.hp 10 rfl)), (hm1125.mono (hS.hp 4 rfl)), (hl1128.mono (Flat.mono _) (hS.hp 4 rfl)), (rows_sl (H := hp w) (hS.get (t := 7) rfl) (hR5031.mono (RRequest.mono) (hS.hp 1 rfl)) (fun _ _ _ ho => ho)), (list_sl (H := hp w) (enc := encI .i64) (size := 1) (ad := ad5025) (cap := cap5026) (el := 3) (l := s5024.2.1) (fun _ => rfl) (hS.get (t := 8) rfl) (fun _ _ _ ho => ho)), (list_sl (H := hp w) (enc := encI .i64) (size := 1) (ad := (some ⟨b1156, 0, none⟩)) (cap := requests.length) (el := 31) (l := s5024.2.2.2) (fun _ => rfl) (hS.get (t := 1) rfl) (fun _ _ _ ho => ho))⟩ x5119 (RRequest.mono _ _ _ _ (hS.hp 10 rfl) hr5127) hx5132) fin1) ?_)))))))))))
          refine DF.nil fun K5134 hF => ?_
          obtain ⟨x5135, hx5136, hr5137⟩ := bd_some hr5133
          refine iaP U59 Z31 rfl rfl rfl (by omega) (Nat.lt_of_lt_of_eq (lt_of hx5136) hln5032) ?_
          have hln5138 : (s5024.2.2.2.set x5113.toNat r5131).length = (List.replicate requests.length (0 : Int)).length := (lenS _ _ _).trans hln5032
          refine stE 1 r5131 (q := ⟨b1156, 0, none⟩) (j := x5113.toNat) (size := 1) (cs := [.int .i64 r5131]) (off := 0) Z31 rfl rfl rfl (fun _ => rfl) hx5136 rfl rfl rfl rfl rfl (on (sq (rg (m1 rfl (nl rfl rfl (fb 7 U133 rfl rfl rfl rfl Z59 (ld G59 rfl rfl ((sO 2 rfl).drop 7) rfl (m1 rfl ?_))))))))
          obtain ⟨x5139, hx5140, hr5141⟩ := bd_some hr5137
          refine iaP U59 Z31 rfl rfl rfl (by omega) (Nat.lt_of_lt_of_eq (lt_of hx5140) hln5138) (ld G31 rfl rfl (sE 1 rfl (fun _ => rfl) hx5140) rfl (eqI rfl rfl rfl (on ?_)))
          obtain ⟨t5177, hx5178, hr5179⟩ := bd_some hr5141
          refine jn (fun a w => ∃ (ad5180 : Option Addr) (cap5181 : Nat) (ad5182 : Option Addr) (cap5183 : Nat) (css5184 : List (List Value)) (K5185 : Hp), St M W H [K5185, K5134, K5030, K1157, K1131, K1120, K1115, K1112, K1109, K17, K14, H] [(8, Own.list ad5180 cap5181 3 1 (encI .i64) t5177.1), (7, Own.rows ad5182 cap5183 63 5 css5184 t5177.2), (4, Own.list (some ⟨b5116, 0, none⟩) cap1196 3 1 (encI .i64) t1886), (2, cel b1158 133 [.slice ad10 r_2.words.length cap11, .int .i64 r_2.out, .int .i64 r_2.within, .map b1129, .slice ad1126 r1117.1.swaps.length cap1127, .slice ad5182 t5177.2.length cap5183, .slice ad5180 t5177.1.length cap5181, .slice (some ⟨b1156, 0, none⟩) ((List.replicate requests.length (0 : Int)).length) requests.length]), (1, Own.list (some ⟨b1156, 0, none⟩) requests.length 31 1 (encI .i64) (s5024.2.2.2.set x5113.toNat r5131))] w ∧ Has [] 106 a [(7, .pointer (some q1114)), (13, .pointer (some (⟨b1158, 0, none⟩))), (55, .slice (some ⟨b5116, 0, none⟩) e1192.length cap1196), (56, .int .i64 (e1192.length : Int)), (57, .int .i64 (s5024.1 : Int))] ∧ Rows (RRequest) 5 K5185 css5184 t5177.2) ?_ ?_
          ·refine ci rfl (fun hc5187 => ?_) (fun hc5187 => ?_)
           ·have hr5188 := if_p hc5187 hx5178
            obtain ⟨hk5198, hr5199⟩ := chk_some hr5188
            have := lenA s5024.2.2.1 ([x5119] : List Request)
            obtain ⟨hk5216, hr5217⟩ := chk_some hr5199
            have := lenA s5024.2.1 ([x5113] : List Int)
            refine drG3 19 [11, 18] [(1, 82, .pointer (some (⟨b1158, 0, none⟩)))] mixed (fun _ _ _ _ _ h => h) (by kernel_rfl) (by kernel_rfl) (by kernel_rfl) rfl (by kernel_rfl) (.cons rfl rfl rfl (fun _ => rfl) (by kernel_rfl) (by kernel_rfl) (fun _ _ => rfl) (mvY rfl) (.nil)) (DC.detA rfl rfl rfl (fun τ a w K hS hA hF => TG.pa hS hA (m1 rfl fin1)) (DC.pre (.head _) rfl (dc rfl (by kernel_rfl) tv rfl rfl (m1 rfl fin1) (dc rfl (by kernel_rfl) tv rfl rfl (nl rfl rfl fin1) (dc rfl (by kernel_rfl) tv rfl rfl (fb 5 U133 rfl rfl rfl rfl Z64 fin1) (dc rfl (by kernel_rfl) tv rfl rfl (ld G64 rfl rfl (((sO 2 rfl).drop 5).take 1) rfl fin1) (dc rfl (by kernel_rfl) tv rfl rfl (ld G64 rfl rfl (sS 6 rfl hK1116) rfl fin1) (dc rfl (by kernel_rfl) tv rfl rfl (m1 rfl fin1) (dc rfl (by kernel_rfl) tv rfl rfl (iaP U64 Z63 rfl rfl rfl (by omega) (lt_of hx5120) fin1) (dc rfl (by kernel_rfl) tv rfl rfl (ldA G63 Z63 rfl rfl (sS 11 rfl hq5125) rfl fin1) ?_))))))))))
            refine DC.und (α := Option Addr × Nat) (none, 0) (fun q => .slice q.1 1 q.2) (fun (q : Option Addr × Nat) K => Sl (RRequest) 5 K q.1 q.2 ([x5119] : List Request)) (fun τ => τ = [(8, Own.list ad5025 cap5026 3 1 (encI .i64) s5024.2.1), (7, Own.rows ad5027 cap5028 63 5 css5029 s5024.2.2.1), (4, Own.list (some ⟨b5116, 0, none⟩) cap1196 3 1 (encI .i64) t1886), (2, cel b1158 133 [.slice ad10 r_2.words.length cap11, .int .i64 r_2.out, .int .i64 r_2.within, .map b1129, .slice ad1126 r1117.1.swaps.length cap1127, .slice ad5027 s5024.2.2.1.length cap5028, .slice ad5025 s5024.2.1.length cap5026, .slice (some ⟨b1156, 0, none⟩) ((List.replicate requests.length (0 : Int)).length) requests.length]), (1, Own.list (some ⟨b1156, 0, none⟩) requests.length 31 1 (encI .i64) (s5024.2.2.2.set x5113.toNat r5131))]) rfl rfl (by kernel_rfl) tv (fun _ _ _ h x => x.mono (RRequest.mono) h) (by kernel_rfl) rfl rfl (fun τ hτ a w K hS hA hF => by subst hτ <;> exact TG.pa hS hA (bS (cs := [.int .i64 x5119.by_, .int .i64 x5119.minute, .int .i64 x5119.from_, .int .i64 x5119.cut, .slice ad5128 x5119.put_.length cap5129]) T4.E64 rfl rfl rfl rfl fun q5189 K5190 hq5191 hK5192 => by
              refine TG.pack (fun K => Sl (RRequest) 5 K (some q5189) 1 ([x5119] : List Request)) (fun H le => Sl.litR (css := [[.int .i64 x5119.by_, .int .i64 x5119.minute, .int .i64 x5119.from_, .int .i64 x5119.cut, .slice ad5128 x5119.put_.length cap5129]]) (l := ([x5119] : List Request)) ⟨⟨rfl, rfl, (RRequest.mono _ _ _ _ (le.at 12 rfl) hr5127)⟩, tv⟩ hq5191 (hK5192.mono (le.at 0 rfl)) rfl) fun K5194 hl5193 => ?_
              have := hl5193.len
              refine sk1 ?_
              exact finU (f := fun q => .slice q.1 1 q.2) (G := (fun (q : Option Addr × Nat) K => Sl (RRequest) 5 K q.1 q.2 ([x5119] : List Request))) (_, _) (fun _ _ _ h x => x.mono (RRequest.mono) h) hl5193)) ?_
            rintro ⟨ad5196, cap5197⟩
            refine DC.turn (α := Option Addr × Nat × List (List Value)) (none, 0, []) (fun q => .slice q.1 ((s5024.2.2.1 ++ ([x5119] : List Request)).length) q.2.1) (fun (q : Option Addr × Nat × List (List Value)) K => Rows (RRequest) 5 K q.2.2 (s5024.2.2.1 ++ ([x5119] : List Request))) (fun q => [(8, Own.list ad5025 cap5026 3 1 (encI .i64) s5024.2.1), (7, Own.rows q.1 q.2.1 63 5 q.2.2 (s5024.2.2.1 ++ ([x5119] : List Request))), (4, Own.list (some ⟨b5116, 0, none⟩) cap1196 3 1 (encI .i64) t1886), (2, cel b1158 133 [.slice ad10 r_2.words.length cap11, .int .i64 r_2.out, .int .i64 r_2.within, .map b1129, .slice ad1126 r1117.1.swaps.length cap1127, .slice ad5027 s5024.2.2.1.length cap5028, .slice ad5025 s5024.2.1.length cap5026, .slice (some ⟨b1156, 0, none⟩) ((List.replicate requests.length (0 : Int)).length) requests.length]), (1, Own.list (some ⟨b1156, 0, none⟩) requests.length 31 1 (encI .i64) (s5024.2.2.2.set x5113.toNat r5131))]) rfl (fun _ _ _ h x => x.mono (RRequest.mono) h) (by kernel_rfl) rfl rfl (fun a w K hS hA hF => TG.pa hS hA (TG.pack (fun K => Sl (RRequest) 5 K ad5196 cap5197 ([x5119] : List Request) ∧ Rows (RRequest) 5 K css5029 s5024.2.2.1) (fun H le => ⟨(hF.1 rfl).mono (RRequest.mono) (le.at 0 rfl), hR5031.mono (RRequest.mono) (le.at 2 rfl)⟩) fun K5202 ⟨hm5203, hR5204⟩ => apR 7 (l := s5024.2.2.1) (m := ([x5119] : List Request)) T4.E64 rfl rfl rfl rfl rfl rfl hm5203 hR5204 RRequest.one rfl hk5198 fun ad5200 cap5201 css5206 hR5205 => finV (f := fun (q : Option Addr × Nat × List (List Value)) => .slice q.1 ((s5024.2.2.1 ++ ([x5119] : List Request)).length) q.2.1) (G := (fun (q : Option Addr × Nat × List (List Value)) K => Rows (RRequest) 5 K q.2.2 (s5024.2.2.1 ++ ([x5119] : List Request)))) (σ1 := fun q => [(8, Own.list ad5025 cap5026 3 1 (encI .i64) s5024.2.1), (7, Own.rows q.1 q.2.1 63 5 q.2.2 (s5024.2.2.1 ++ ([x5119] : List Request))), (4, Own.list (some ⟨b5116, 0, none⟩) cap1196 3 1 (encI .i64) t1886), (2, cel b1158 133 [.slice ad10 r_2.words.length cap11, .int .i64 r_2.out, .int .i64 r_2.within, .map b1129, .slice ad1126 r1117.1.swaps.length cap1127, .slice ad5027 s5024.2.2.1.length cap5028, .slice ad5025 s5024.2.1.length cap5026, .slice (some ⟨b1156, 0, none⟩) ((List.replicate requests.length (0 : Int)).length) requests.length]), (1, Own.list (some ⟨b1156, 0, none⟩) requests.length 31 1 (encI .i64) (s5024.2.2.2.set x5113.toNat r5131))]) (ad5200, cap5201, css5206) (fun _ _ _ h x => x.mono (RRequest.mono) h) hR5205)) ?_
            rintro ⟨ad5200, cap5201, css5206⟩
            refine DC.det (fun τ => τ = [(8, Own.list ad5025 cap5026 3 1 (encI .i64) s5024.2.1), (7, Own.rows ad5200 cap5201 63 5 css5206 (s5024.2.2.1 ++ ([x5119] : List Request))), (4, Own.list (some ⟨b5116, 0, none⟩) cap1196 3 1 (encI .i64) t1886), (2, cel b1158 133 [.slice ad10 r_2.words.length cap11, .int .i64 r_2.out, .int .i64 r_2.within, .map b1129, .slice ad1126 r1117.1.swaps.length cap1127, .slice ad5027 s5024.2.2.1.length cap5028, .slice ad5025 s5024.2.1.length cap5026, .slice (some ⟨b1156, 0, none⟩) ((List.replicate requests.length (0 : Int)).length) requests.length]), (1, Own.list (some ⟨b1156, 0, none⟩) requests.length 31 1 (encI .i64) (s5024.2.2.2.set x5113.toNat r5131))] ∨ τ = [(8, Own.list ad5025 cap5026 3 1 (encI .i64) s5024.2.1), (7, Own.rows ad5027 cap5028 63 5 css5029 s5024.2.2.1), (4, Own.list (some ⟨b5116, 0, none⟩) cap1196 3 1 (encI .i64) t1886), (2, cel b1158 133 [.slice ad10 r_2.words.length cap11, .int .i64 r_2.out, .int .i64 r_2.within, .map b1129, .slice ad1126 r1117.1.swaps.length cap1127, .slice ad5027 s5024.2.2.1.length cap5028, .slice ad5025 s5024.2.1.length cap5026, .slice (some ⟨b1156, 0, none⟩) ((List.replicate requests.length (0 : Int)).length) requests.length]), (1, Own.list (some ⟨b1156, 0, none⟩) requests.length 31 1 (encI .i64) (s5024.2.2.2.set x5113.toNat r5131))]) rfl (.inl rfl) (by kernel_rfl) ⟨.inl (.inr (rfl)), tv⟩ rfl rfl (fun τ hτ a w K hS hA hF => by rcases hτ with rfl | rfl <;> exact TG.pa hS hA (m1 rfl fin1)) ?_
            refine DC.det (fun τ => τ = [(8, Own.list ad5025 cap5026 3 1 (encI .i64) s5024.2.1), (7, Own.rows ad5200 cap5201 63 5 css5206 (s5024.2.2.1 ++ ([x5119] : List Request))), (4, Own.list (some ⟨b5116, 0, none⟩) cap1196 3 1 (encI .i64) t1886), (2, cel b1158 133 [.slice ad10 r_2.words.length cap11, .int .i64 r_2.out, .int .i64 r_2.within, .map b1129, .slice ad1126 r1117.1.swaps.length cap1127, .slice ad5027 s5024.2.2.1.length cap5028, .slice ad5025 s5024.2.1.length cap5026, .slice (some ⟨b1156, 0, none⟩) ((List.replicate requests.length (0 : Int)).length) requests.length]), (1, Own.list (some ⟨b1156, 0, none⟩) requests.length 31 1 (encI .i64) (s5024.2.2.2.set x5113.toNat r5131))] ∨ τ = [(8, Own.list ad5025 cap5026 3 1 (encI .i64) s5024.2.1), (7, Own.rows ad5027 cap5028 63 5 css5029 s5024.2.2.1), (4, Own.list (some ⟨b5116, 0, none⟩) cap1196 3 1 (encI .i64) t1886), (2, cel b1158 133 [.slice ad10 r_2.words.length cap11, .int .i64 r_2.out, .int .i64 r_2.within, .map b1129, .slice ad1126 r1117.1.swaps.length cap1127, .slice ad5027 s5024.2.2.1.length cap5028, .slice ad5025 s5024.2.1.length cap5026, .slice (some ⟨b1156, 0, none⟩) ((List.replicate requests.length (0 : Int)).length) requests.length]), (1, Own.list (some ⟨b1156, 0, none⟩) requests.length 31 1 (encI .i64) (s5024.2.2.2.set x5113.toNat r5131))]) rfl (.inl rfl) (by kernel_rfl) ⟨.inl (.inr (rfl)), tv⟩ rfl rfl (fun τ hτ a w K hS hA hF => by rcases hτ with rfl | rfl <;> exact TG.pa hS hA (nl rfl rfl fin1)) ?_
            refine DC.det (fun τ => τ = [(8, Own.list ad5025 cap5026 3 1 (encI .i64) s5024.2.1), (7, Own.rows ad5200 cap5201 63 5 css5206 (s5024.2.2.1 ++ ([x5119] : List Request))), (4, Own.list (some ⟨b5116, 0, none⟩) cap1196 3 1 (encI .i64) t1886), (2, cel b1158 133 [.slice ad10 r_2.words.length cap11, .int .i64 r_2.out, .int .i64 r_2.within, .map b1129, .slice ad1126 r1117.1.swaps.length cap1127, .slice ad5027 s5024.2.2.1.length cap5028, .slice ad5025 s5024.2.1.length cap5026, .slice (some ⟨b1156, 0, none⟩) ((List.replicate requests.length (0 : Int)).length) requests.length]), (1, Own.list (some ⟨b1156, 0, none⟩) requests.length 31 1 (encI .i64) (s5024.2.2.2.set x5113.toNat r5131))] ∨ τ = [(8, Own.list ad5025 cap5026 3 1 (encI .i64) s5024.2.1), (7, Own.rows ad5027 cap5028 63 5 css5029 s5024.2.2.1), (4, Own.list (some ⟨b5116, 0, none⟩) cap1196 3 1 (encI .i64) t1886), (2, cel b1158 133 [.slice ad10 r_2.words.length cap11, .int .i64 r_2.out, .int .i64 r_2.within, .map b1129, .slice ad1126 r1117.1.swaps.length cap1127, .slice ad5027 s5024.2.2.1.length cap5028, .slice ad5025 s5024.2.1.length cap5026, .slice (some ⟨b1156, 0, none⟩) ((List.replicate requests.length (0 : Int)).length) requests.length]), (1, Own.list (some ⟨b1156, 0, none⟩) requests.length 31 1 (encI .i64) (s5024.2.2.2.set x5113.toNat r5131))]) rfl (.inl rfl) (by kernel_rfl) ⟨.inl (.inr (rfl)), tv⟩ rfl rfl (fun τ hτ a w K hS hA hF => by rcases hτ with rfl | rfl <;> exact TG.pa hS hA (fb 6 U133 rfl rfl rfl rfl Z86 fin1)) ?_
            refine DC.det (fun τ => τ = [(8, Own.list ad5025 cap5026 3 1 (encI .i64) s5024.2.1), (7, Own.rows ad5200 cap5201 63 5 css5206 (s5024.2.2.1 ++ ([x5119] : List Request))), (4, Own.list (some ⟨b5116, 0, none⟩) cap1196 3 1 (encI .i64) t1886), (2, cel b1158 133 [.slice ad10 r_2.words.length cap11, .int .i64 r_2.out, .int .i64 r_2.within, .map b1129, .slice ad1126 r1117.1.swaps.length cap1127, .slice ad5027 s5024.2.2.1.length cap5028, .slice ad5025 s5024.2.1.length cap5026, .slice (some ⟨b1156, 0, none⟩) ((List.replicate requests.length (0 : Int)).length) requests.length]), (1, Own.list (some ⟨b1156, 0, none⟩) requests.length 31 1 (encI .i64) (s5024.2.2.2.set x5113.toNat r5131))] ∨ τ = [(8, Own.list ad5025 cap5026 3 1 (encI .i64) s5024.2.1), (7, Own.rows ad5027 cap5028 63 5 css5029 s5024.2.2.1), (4, Own.list (some ⟨b5116, 0, none⟩) cap1196 3 1 (encI .i64) t1886), (2, cel b1158 133 [.slice ad10 r_2.words.length cap11, .int .i64 r_2.out, .int .i64 r_2.within, .map b1129, .slice ad1126 r1117.1.swaps.length cap1127, .slice ad5027 s5024.2.2.1.length cap5028, .slice ad5025 s5024.2.1.length cap5026, .slice (some ⟨b1156, 0, none⟩) ((List.replicate requests.length (0 : Int)).length) requests.length]), (1, Own.list (some ⟨b1156, 0, none⟩) requests.length 31 1 (encI .i64) (s5024.2.2.2.set x5113.toNat r5131))]) rfl (.inl rfl) (by kernel_rfl) ⟨.inl (.inr (rfl)), tv⟩ rfl rfl (fun τ hτ a w K hS hA hF => by rcases hτ with rfl | rfl <;> exact TG.pa hS hA (ld G86 rfl rfl (((sO 2 rfl).drop 6).take 1) rfl fin1)) ?_
            refine DC.det (fun τ => τ = [(8, Own.list ad5025 cap5026 3 1 (encI .i64) s5024.2.1), (7, Own.rows ad5200 cap5201 63 5 css5206 (s5024.2.2.1 ++ ([x5119] : List Request))), (4, Own.list (some ⟨b5116, 0, none⟩) cap1196 3 1 (encI .i64) t1886), (2, cel b1158 133 [.slice ad10 r_2.words.length cap11, .int .i64 r_2.out, .int .i64 r_2.within, .map b1129, .slice ad1126 r1117.1.swaps.length cap1127, .slice ad5027 s5024.2.2.1.length cap5028, .slice ad5025 s5024.2.1.length cap5026, .slice (some ⟨b1156, 0, none⟩) ((List.replicate requests.length (0 : Int)).length) requests.length]), (1, Own.list (some ⟨b1156, 0, none⟩) requests.length 31 1 (encI .i64) (s5024.2.2.2.set x5113.toNat r5131))] ∨ τ = [(8, Own.list ad5025 cap5026 3 1 (encI .i64) s5024.2.1), (7, Own.rows ad5027 cap5028 63 5 css5029 s5024.2.2.1), (4, Own.list (some ⟨b5116, 0, none⟩) cap1196 3 1 (encI .i64) t1886), (2, cel b1158 133 [.slice ad10 r_2.words.length cap11, .int .i64 r_2.out, .int .i64 r_2.within, .map b1129, .slice ad1126 r1117.1.swaps.length cap1127, .slice ad5027 s5024.2.2.1.length cap5028, .slice ad5025 s5024.2.1.length cap5026, .slice (some ⟨b1156, 0, none⟩) ((List.replicate requests.length (0 : Int)).length) requests.length]), (1, Own.list (some ⟨b1156, 0, none⟩) requests.length 31 1 (encI .i64) (s5024.2.2.2.set x5113.toNat r5131))]) rfl (.inl rfl) (by kernel_rfl) ⟨.inl (.inr (rfl)), tv⟩ rfl rfl (fun τ hτ a w K hS hA hF => by rcases hτ with rfl | rfl <;> exact TG.pa hS hA (m1 rfl fin1)) ?_
            refine DC.und (α := Option Addr × Nat) (none, 0) (fun q => .slice q.1 1 q.2) (fun (q : Option Addr × Nat) K => Sl (Flat (encI .i64)) 1 K q.1 q.2 ([x5113] : List Int)) (fun τ => τ = [(8, Own.list ad5025 cap5026 3 1 (encI .i64) s5024.2.1), (7, Own.rows ad5200 cap5201 63 5 css5206 (s5024.2.2.1 ++ ([x5119] : List Request))), (4, Own.list (some ⟨b5116, 0, none⟩) cap1196 3 1 (encI .i64) t1886), (2, cel b1158 133 [.slice ad10 r_2.words.length cap11, .int .i64 r_2.out, .int .i64 r_2.within, .map b1129, .slice ad1126 r1117.1.swaps.length cap1127, .slice ad5027 s5024.2.2.1.length cap5028, .slice ad5025 s5024.2.1.length cap5026, .slice (some ⟨b1156, 0, none⟩) ((List.replicate requests.length (0 : Int)).length) requests.length]), (1, Own.list (some ⟨b1156, 0, none⟩) requests.length 31 1 (encI .i64) (s5024.2.2.2.set x5113.toNat r5131))] ∨ τ = [(8, Own.list ad5025 cap5026 3 1 (encI .i64) s5024.2.1), (7, Own.rows ad5027 cap5028 63 5 css5029 s5024.2.2.1), (4, Own.list (some ⟨b5116, 0, none⟩) cap1196 3 1 (encI .i64) t1886), (2, cel b1158 133 [.slice ad10 r_2.words.length cap11, .int .i64 r_2.out, .int .i64 r_2.within, .map b1129, .slice ad1126 r1117.1.swaps.length cap1127, .slice ad5027 s5024.2.2.1.length cap5028, .slice ad5025 s5024.2.1.length cap5026, .slice (some ⟨b1156, 0, none⟩) ((List.replicate requests.length (0 : Int)).length) requests.length]), (1, Own.list (some ⟨b1156, 0, none⟩) requests.length 31 1 (encI .i64) (s5024.2.2.2.set x5113.toNat r5131))]) rfl (.inl rfl) (by kernel_rfl) ⟨.inl (.inr (rfl)), tv⟩ (fun _ _ _ h x => x.mono (Flat.mono _) h) (by kernel_rfl) rfl rfl (fun τ hτ a w K hS hA hF => by rcases hτ with rfl | rfl <;> exact TG.pa hS hA (bS (cs := [.int .i64 x5113]) T4.E86 rfl rfl rfl rfl fun q5208 K5209 hq5210 hK5211 => by
              have hl5212 : Sl (Flat (encI .i64)) 1 K5209 (some q5208) 1 ([x5113] : List Int) := Sl.litR (css := [[.int .i64 x5113]]) (l := ([x5113] : List Int)) ⟨⟨rfl, rfl, rfl⟩, tv⟩ hq5210 hK5211 rfl
              have := hl5212.len
              exact finU (f := fun q => .slice q.1 1 q.2) (G := (fun (q : Option Addr × Nat) K => Sl (Flat (encI .i64)) 1 K q.1 q.2 ([x5113] : List Int))) (_, _) (fun _ _ _ h x => x.mono (Flat.mono _) h) hl5212)) ?_
            rintro ⟨ad5214, cap5215⟩
            refine DC.turn (α := Option Addr × Nat) (none, 0) (fun q => .slice q.1 ((s5024.2.1 ++ ([x5113] : List Int)).length) q.2) (fun _ _ => True) (fun q => [(8, Own.list q.1 q.2 3 1 (encI .i64) (s5024.2.1 ++ ([x5113] : List Int))), (7, Own.rows ad5200 cap5201 63 5 css5206 (s5024.2.2.1 ++ ([x5119] : List Request))), (4, Own.list (some ⟨b5116, 0, none⟩) cap1196 3 1 (encI .i64) t1886), (2, cel b1158 133 [.slice ad10 r_2.words.length cap11, .int .i64 r_2.out, .int .i64 r_2.within, .map b1129, .slice ad1126 r1117.1.swaps.length cap1127, .slice ad5027 s5024.2.2.1.length cap5028, .slice ad5025 s5024.2.1.length cap5026, .slice (some ⟨b1156, 0, none⟩) ((List.replicate requests.length (0 : Int)).length) requests.length]), (1, Own.list (some ⟨b1156, 0, none⟩) requests.length 31 1 (encI .i64) (s5024.2.2.2.set x5113.toNat r5131))]) rfl (fun _ _ _ _ h => h) (by kernel_rfl) rfl rfl (fun a w K hS hA hF => TG.pa hS hA (apS 8 (enc := encI .i64) (l := s5024.2.1) (m := ([x5113] : List Int)) T4.E86 rfl rfl rfl rfl rfl rfl (hF.1 rfl) 0 rfl (fun _ => rfl) (fun _ => rfl) rfl hk5216 fun ad5218 cap5219 => finT (f := fun q => .slice q.1 ((s5024.2.1 ++ ([x5113] : List Int)).length) q.2) (G := fun _ _ => True) (σ1 := fun q => [(8, Own.list q.1 q.2 3 1 (encI .i64) (s5024.2.1 ++ ([x5113] : List Int))), (7, Own.rows ad5200 cap5201 63 5 css5206 (s5024.2.2.1 ++ ([x5119] : List Request))), (4, Own.list (some ⟨b5116, 0, none⟩) cap1196 3 1 (encI .i64) t1886), (2, cel b1158 133 [.slice ad10 r_2.words.length cap11, .int .i64 r_2.out, .int .i64 r_2.within, .map b1129, .slice ad1126 r1117.1.swaps.length cap1127, .slice ad5027 s5024.2.2.1.length cap5028, .slice ad5025 s5024.2.1.length cap5026, .slice (some ⟨b1156, 0, none⟩) ((List.replicate requests.length (0 : Int)).length) requests.length]), (1, Own.list (some ⟨b1156, 0, none⟩) requests.length 31 1 (encI .i64) (s5024.2.2.2.set x5113.toNat r5131))]) (_, _) tv)) ?_
            rintro ⟨ad5218, cap5219⟩
            refine DC.nil fun K5220 hF => ?_
            obtain ⟨_, hu5213, hu5207, hu5195, _⟩ := hF
            have := hu5195.len
            have := hu5213.len
            refine nl rfl rfl (fb 5 U133 rfl rfl rfl rfl Z64 (sto 2 (cs := [.slice ad5200 ((s5024.2.2.1 ++ ([x5119] : List Request)).length) cap5201]) Z64 rfl rfl rfl rfl rfl rfl rfl (nl rfl rfl (fb 6 U133 rfl rfl rfl rfl Z86 (sto 2 (cs := [.slice ad5218 ((s5024.2.1 ++ ([x5113] : List Int)).length) cap5219]) Z86 rfl rfl rfl rfl rfl rfl rfl (on ?_))))))
            cases hr5217
            intro a w hS hA
            exact ⟨ad5218, cap5219, ad5200, cap5201, css5206, K5220, hS, hA.cut ⟨rfl, rfl, rfl, rfl, rfl, tv⟩, hu5207⟩
           ·have hr5221 := if_n hc5187 hx5178
            refine sk ?_
            cases hr5221
            intro a w hS hA
            exact ⟨ad5025, cap5026, ad5027, cap5028, css5029, K5030, hS.selH [1, 0, 1, 2, 3, 4, 5, 6, 7, 8, 9, 10] rfl, hA.cut ⟨rfl, rfl, rfl, rfl, rfl, tv⟩, hR5031⟩
          ·rintro a w ⟨ad5180, cap5181, ad5182, cap5183, css5184, K5185, hS, hA, hR5186⟩
           refine TG.ap ?_ hS hA
           refine rg (adI rfl rfl rfl (by omega) (m1 rfl (on ?_)))
           cases hr5179
           intro a w hS hA
           exact ⟨_, hz5034, ad5180, cap5181, ad5182, cap5183, css5184, K5185, hS.selH [0, 3, 4, 5, 6, 7, 8, 9, 10, 11] rfl, hA.cut ⟨rfl, rfl, rfl, rfl, rfl, tv⟩, hR5186, hln5138⟩
         ·have hr5222 := if_n hc5039 hr5033
          refine xt rfl ?_
          cases hr5222
          obtain rfl := Fin.out hz5034
          intro a w hS hA
          exact ⟨ad5025, cap5026, ad5027, cap5028, css5029, K5030, hS, hA.cut ⟨rfl, tv⟩, hR5031, hln5032⟩
       ·rintro a w ⟨ad5016, cap5017, ad5018, cap5019, css5020, K5021, hS, hA, hR5022, hln5023⟩
        refine TG.ap ?_ hS hA
        refine sq (rg (m1 rfl (a1 rfl (a1 rfl (on (rt_ (TG.del 4 (TG.as 2 (z := cel b1158 133 [.slice ad10 r_2.words.length cap11, .int .i64 r_2.out, .int .i64 r_2.within, .map b1129, .slice ad1126 r1117.1.swaps.length cap1127, .slice ad5018 e5013.2.1.length cap5019, .slice ad5016 e5013.1.length cap5017, .slice (some ⟨b1156, 0, none⟩) e5013.2.2.length requests.length]) rfl (by rw [hln5023]) ?_))))))))
        cases hr5015
        intro a w hS hA
        refine ret2 hA rfl rfl rfl ?_
        exact ⟨_, rfl, .inr (⟨_, rfl, b1158, ad5016, cap5017, ad5018, cap5019, css5020, K5021, ad10, cap11, H, .map b1129, K1120, ad1126, cap1127, K1120, (some ⟨b1156, 0, none⟩), requests.length, rfl, hS.selH [0, 9, 3, 3, 7, 8, 9] rfl, hR5022, hl12, hm1125, hl1128⟩)⟩
 ·rintro a w v hA (⟨t1085, rfl, rfl, hS⟩ | ⟨t1086, rfl, b1087, ad1088, cap1089, ad1090, cap1091, css1092, K1093, ad1095, cap1096, K1097, mp1099, K1100, ad1102, cap1103, K1104, ad1106, cap1107, rfl, hS, hR1094, hl1098, hm1101, hl1105⟩)
  ·refine putK rfl hA hS (m1 rfl (ex rfl rfl rfl (ex rfl rfl rfl (a1 rfl (a1 rfl (on (sq (sq (rg (m1 rfl (neI rfl rfl rfl ?_)))))))))))
   refine on ?_
   refine ci rfl (fun hc5226 => ?_) (fun hc5226 => ?_)
   ·have hr5227 := if_p hc5226 hr1084
    refine sq (rg (m1 rfl (a1 rfl (a1 rfl (on (rt_ ?_))))))
    cases hr5227
    intro a w hS hA
    refine ret2 hA rfl rfl rfl ?_
    exact ⟨⟨_, _, rfl, (Sl.nil _ _ _ _ _ (by decide))⟩, hS.ext⟩
   ·have hr5228 := if_n hc5226 hr1084
    refine sk (sq (rg (m1 rfl ?_)))
    cases hr5228
  ·have := hl1098.len
   have := hl1105.len
   refine putK rfl hA hS (m1 rfl (ex rfl rfl rfl (ex rfl rfl rfl (a1 rfl (a1 rfl (on (sq (sq (rg (m1 rfl (neI rfl rfl rfl ?_)))))))))))
   refine on (cF rfl ((rfl : decide ((0 : Int) ≠ (0 : Int)) = false)) (sk (sq (rg (m1 rfl (nl rfl rfl (fb 7 U133 rfl rfl rfl rfl Z59 (ld G59 rfl rfl ((sO 2 rfl).drop 7) rfl (a1 rfl (a1 rfl (on ?_)))))))))))
   refine rt_ ?_
   cases hr1084
   intro a w hS hA
   refine ret2 hA rfl rfl rfl ?_
   exact ⟨⟨_, _, rfl, (hS.listOut 1 rfl (fun _ => rfl))⟩, hS.ext⟩

theorem w41 {M : Prop} {W : World} {H : Hp} (hH : H.le (hp W)) {ad_a_0 : Option Addr} {cap_a_0 : Nat} {a_0 : List Mark} (h_a_0 : Sl (Flat encMark) 2 H ad_a_0 cap_a_0 a_0) {ad_b_1 : Option Addr} {cap_b_1 : Nat} {b_1 : List Mark} (h_b_1 : Sl (Flat encMark) 2 H ad_b_1 cap_b_1 b_1) {r : Bool} (hr : m41 a_0 b_1 = some r) : Calls Tryz.prog 41 [.slice ad_a_0 a_0.length cap_a_0, .slice ad_b_1 b_1.length cap_b_1].toArray W (RetS M W (.bool r)) := by
 have := h_a_0.len
 have := h_b_1.len
 unfold m41 at hr
 refine enterG (M := M) Tryz.func41 rfl Tryz.ntmps41 rfl hH ?_
 refine sq (rg (a1 rfl (on (sq (sq (rg (m1 rfl (lnL U49 rfl rfl (m1 rfl (lnL U44 rfl rfl (neI rfl rfl rfl ?_)))))))))))
 refine on ?_
 refine ci rfl (fun hc4 => ?_) (fun hc4 => ?_)
 ·have hr5 := if_p hc4 hr
  refine sq (rg (a1 rfl (on (rt_ ?_))))
  cases hr5
  intro a w hS hA
  refine ret1 hA rfl rfl ?_
  exact ⟨rfl, hS.ext⟩
 ·have hr6 := if_n hc4 hr
  refine sk (sq (sq (rg (a1 rfl (on ?_)))))
  obtain ⟨e36, hl37, hr38⟩ := bd_some hr6
  refine jn (fun a w => ∃ t39, e36 = .inl t39 ∧ St M W H [H] [] w ∧ Has [] 41 a []) ?_ ?_
  ·refine bk ?_
   refine lp hl37 (fun s40 a w => St M W H [H] [] w ∧ Has [] 41 a [(0, .slice ad_a_0 a_0.length cap_a_0), (1, .slice ad_b_1 b_1.length cap_b_1), (5, .int .i64 (s40 : Int))]) ?_ ?_
   ·exact cu ⟨rfl, rfl, rfl, tv⟩
   ·rintro j s40 y43 hr41 hz42 a w ⟨hS, hA⟩
    refine TG.ap ?_ hS hA
    unfold m41_1 at hr41
    refine sq (sq (rg (m1 rfl (m1 rfl (lnL U49 rfl rfl (ltI rfl rfl rfl (on ?_)))))))
    refine ci rfl (fun hc47 => ?_) (fun hc47 => ?_)
    ·have hr48 := if_p hc47 hr41
     refine sk (sq (bk (sq ?_)))
     obtain ⟨t95, hx96, hr97⟩ := bd_some hr48
     refine jn (fun a w => St M W H [H] [] w ∧ Has [] 41 a [(0, .slice ad_a_0 a_0.length cap_a_0), (1, .slice ad_b_1 b_1.length cap_b_1), (5, .int .i64 (s40 : Int)), (40, .bool t95)]) ?_ ?_
     ·obtain ⟨x98, hx99, hr100⟩ := bd_some hx96
      obtain ⟨p101, rfl⟩ := h_a_0.adr hx99
      obtain ⟨cs102, hcs103, hq104, hr105⟩ := h_a_0.at hx99
      obtain rfl := hr105
      obtain ⟨x106, hx107, hr108⟩ := bd_some hr100
      obtain ⟨p109, rfl⟩ := h_b_1.adr hx107
      obtain ⟨cs110, hcs111, hq112, hr113⟩ := h_b_1.at hx107
      obtain rfl := hr113
      by_cases hb114 : x98.kind ≠ x106.kind
      ·have hr115 := if_p hb114 hr108
       refine drG 22 mixed (by kernel_rfl) rfl (dt rfl (m1 rfl fin1) (dt rfl (m1 rfl fin1) (dt rfl (iaP U49 Z79 rfl rfl rfl rfl (lt_of hx99) fin1) (dt rfl (fb 0 U79 rfl rfl rfl rfl Z5 fin1) (dt rfl (ld G5 rfl rfl ((sS 1 rfl hq104).take 1) rfl fin1) (dt rfl (m1 rfl fin1) (dt rfl (m1 rfl fin1) (dt rfl (iaP U44 Z113 rfl rfl rfl rfl (lt_of hx107) fin1) (dt rfl (fb 0 U113 rfl rfl rfl rfl Z5 fin1) (dt rfl (ld G5 rfl rfl ((sS 1 rfl hq112).take 1) rfl fin1) (dt rfl (neI rfl rfl rfl fin1) ?_)))))))))))
       refine dt rfl (m1 rfl fin1) (dt rfl (gf' hb114 rfl fin1) (dt rfl (gf' hb114 rfl fin1) (dt rfl (gf' hb114 rfl fin1) (dt rfl (gf' hb114 rfl fin1) (dt rfl (gf' hb114 rfl fin1) (dt rfl (gf' hb114 rfl fin1) (dt rfl (gf' hb114 rfl fin1) (dt rfl (gf' hb114 rfl fin1) (dt rfl (gf' hb114 rfl fin1) (dt rfl (gf' hb114 rfl fin1) (DF.nil fun K116 hF => ?_)))))))))))
       refine gf' hb114 rfl (pt hb114 rfl rfl (on ?_))
       cases hr115
       intro a w hS hA
       exact ⟨hS.selH [1] rfl, hA.cut ⟨rfl, rfl, rfl, rfl, tv⟩⟩
      ·have hr117 := if_n hb114 hr108
       refine drG 22 mixed (by kernel_rfl) rfl (dt rfl (m1 rfl fin1) (dt rfl (m1 rfl fin1) (dt rfl (iaP U49 Z79 rfl rfl rfl rfl (lt_of hx99) fin1) (dt rfl (fb 0 U79 rfl rfl rfl rfl Z5 fin1) (dt rfl (ld G5 rfl rfl ((sS 1 rfl hq104).take 1) rfl fin1) (dt rfl (m1 rfl fin1) (dt rfl (m1 rfl fin1) (dt rfl (iaP U44 Z113 rfl rfl rfl rfl (lt_of hx107) fin1) (dt rfl (fb 0 U113 rfl rfl rfl rfl Z5 fin1) (dt rfl (ld G5 rfl rfl ((sS 1 rfl hq112).take 1) rfl fin1) (dt rfl (neI rfl rfl rfl fin1) ?_)))))))))))
       refine dt rfl (m1 rfl fin1) (dt rfl (gt' hb114 rfl (m1 rfl fin1)) (dt rfl (gt' hb114 rfl (m1 rfl fin1)) (dt rfl (gt' hb114 rfl (iaP U49 Z79 rfl rfl rfl rfl (lt_of hx99) fin1)) (dt rfl (gt' hb114 rfl (fb 1 U79 rfl rfl rfl rfl Z3 fin1)) (dt rfl (gt' hb114 rfl (ld G3 rfl rfl ((sS 1 rfl hq104).drop 1) rfl fin1)) (dt rfl (gt' hb114 rfl (m1 rfl fin1)) (dt rfl (gt' hb114 rfl (m1 rfl fin1)) (dt rfl (gt' hb114 rfl (iaP U44 Z113 rfl rfl rfl rfl (lt_of hx107) fin1)) (dt rfl (gt' hb114 rfl (fb 1 U113 rfl rfl rfl rfl Z3 fin1)) (dt rfl (gt' hb114 rfl (ld G3 rfl rfl ((sS 1 rfl hq112).drop 1) rfl fin1)) (DF.nil fun K118 hF => ?_)))))))))))
       refine gt' hb114 rfl (neI rfl rfl rfl (pf hb114 rfl rfl (on ?_)))
       cases hr117
       intro a w hS hA
       exact ⟨hS.selH [1] rfl, hA.cut ⟨rfl, rfl, rfl, rfl, tv⟩⟩
     ·rintro a w ⟨hS, hA⟩
      refine TG.ap ?_ hS hA
      refine cb rfl (fun hc122 => ?_) (fun hc122 => ?_)
      ·have hr123 := if_p hc122 hr97
       refine sq (rg (a1 rfl (on (rt_ ?_))))
       cases hr123
       obtain rfl := Fin.out hz42
       cases hr38
       intro a w hS hA
       refine ret1 hA rfl rfl ?_
       exact ⟨rfl, hS.ext⟩
      ·have hr124 := if_f hc122 hr97
       refine sk (rg (m1 rfl (adI rfl rfl rfl (by omega) (a1 rfl (on ?_)))))
       cases hr124
       intro a w hS hA
       exact ⟨_, hz42, hS, hA.cut ⟨rfl, rfl, rfl, tv⟩⟩
    ·have hr125 := if_n hc47 hr41
     refine xt rfl ?_
     cases hr125
     obtain rfl := Fin.out hz42
     intro a w hS hA
     exact ⟨_, rfl, hS, hA.cut tv⟩
  ·rintro a w ⟨t39, rfl, hS, hA⟩
   refine TG.ap ?_ hS hA
   refine sq (rg (a1 rfl (on (rt_ ?_))))
   cases hr38
   intro a w hS hA
   refine ret1 hA rfl rfl ?_
   exact ⟨rfl, hS.ext⟩

theorem w50 {M : Prop} {W : World} {H : Hp} (hH : H.le (hp W)) {ad_a_0 : Option Addr} {cap_a_0 : Nat} {a_0 : List Int} (h_a_0 : Sl (Flat (encI .i64)) 1 H ad_a_0 cap_a_0 a_0) {ad_b_1 : Option Addr} {cap_b_1 : Nat} {b_1 : List Int} (h_b_1 : Sl (Flat (encI .i64)) 1 H ad_b_1 cap_b_1 b_1) {r : Bool} (hr : m50 a_0 b_1 = some r) : Calls Tryz.prog 50 [.slice ad_a_0 a_0.length cap_a_0, .slice ad_b_1 b_1.length cap_b_1].toArray W (RetS M W (.bool r)) := by
 have := h_a_0.len
 have := h_b_1.len
 unfold m50 at hr
 refine enterG (M := M) Tryz.func50 rfl Tryz.ntmps50 rfl hH ?_
 refine sq (rg (a1 rfl (on (sq (sq (rg (m1 rfl (lnL U59 rfl rfl (m1 rfl (lnL U59 rfl rfl (neI rfl rfl rfl ?_)))))))))))
 refine on ?_
 refine ci rfl (fun hc4 => ?_) (fun hc4 => ?_)
 ·have hr5 := if_p hc4 hr
  refine sq (rg (a1 rfl (on (rt_ ?_))))
  cases hr5
  intro a w hS hA
  refine ret1 hA rfl rfl ?_
  exact ⟨rfl, hS.ext⟩
 ·have hr6 := if_n hc4 hr
  refine sk (sq (sq (rg (a1 rfl (on ?_)))))
  obtain ⟨e31, hl32, hr33⟩ := bd_some hr6
  refine jn (fun a w => ∃ t34, e31 = .inl t34 ∧ St M W H [H] [] w ∧ Has [] 26 a []) ?_ ?_
  ·refine bk ?_
   refine lp hl32 (fun s35 a w => St M W H [H] [] w ∧ Has [] 26 a [(0, .slice ad_a_0 a_0.length cap_a_0), (1, .slice ad_b_1 b_1.length cap_b_1), (5, .int .i64 (s35 : Int))]) ?_ ?_
   ·exact cu ⟨rfl, rfl, rfl, tv⟩
   ·rintro j s35 y38 hr36 hz37 a w ⟨hS, hA⟩
    refine TG.ap ?_ hS hA
    unfold m50_1 at hr36
    refine sq (sq (rg (m1 rfl (m1 rfl (lnL U59 rfl rfl (ltI rfl rfl rfl (on ?_)))))))
    refine ci rfl (fun hc42 => ?_) (fun hc42 => ?_)
    ·have hr43 := if_p hc42 hr36
     refine sk (sq (bk (sq ?_)))
     obtain ⟨x64, hx65, hr66⟩ := bd_some hr43
     obtain ⟨p67, rfl⟩ := h_a_0.adr hx65
     obtain ⟨cs68, hcs69, hq70, hr71⟩ := h_a_0.at hx65
     obtain rfl := hr71
     obtain ⟨x72, hx73, hr74⟩ := bd_some hr66
     obtain ⟨p75, rfl⟩ := h_b_1.adr hx73
     obtain ⟨cs76, hcs77, hq78, hr79⟩ := h_b_1.at hx73
     obtain rfl := hr79
     refine drG 8 mixed (by kernel_rfl) rfl (dt rfl (m1 rfl fin1) (dt rfl (m1 rfl fin1) (dt rfl (iaP U59 Z31 rfl rfl rfl rfl (lt_of hx65) fin1) (dt rfl (ld G31 rfl rfl (sS 1 rfl hq70) rfl fin1) (dt rfl (m1 rfl fin1) (dt rfl (m1 rfl fin1) (dt rfl (iaP U59 Z31 rfl rfl rfl rfl (lt_of hx73) fin1) (dt rfl (ld G31 rfl rfl (sS 1 rfl hq78) rfl fin1) (DF.nil fun K80 hF => (neI rfl rfl rfl (on ?_)))))))))))
     refine ci rfl (fun hc84 => ?_) (fun hc84 => ?_)
     ·have hr85 := if_p hc84 hr74
      refine sq (rg (a1 rfl (on (rt_ ?_))))
      cases hr85
      obtain rfl := Fin.out hz37
      cases hr33
      intro a w hS hA
      refine ret1 hA rfl rfl ?_
      exact ⟨rfl, hS.ext⟩
     ·have hr86 := if_n hc84 hr74
      refine sk (rg (m1 rfl (adI rfl rfl rfl (by omega) (a1 rfl (on ?_)))))
      cases hr86
      intro a w hS hA
      exact ⟨_, hz37, hS.selH [1] rfl, hA.cut ⟨rfl, rfl, rfl, tv⟩⟩
    ·have hr87 := if_n hc42 hr36
     refine xt rfl ?_
     cases hr87
     obtain rfl := Fin.out hz37
     intro a w hS hA
     exact ⟨_, rfl, hS, hA.cut tv⟩
  ·rintro a w ⟨t34, rfl, hS, hA⟩
   refine TG.ap ?_ hS hA
   refine sq (rg (a1 rfl (on (rt_ ?_))))
   cases hr33
   intro a w hS hA
   refine ret1 hA rfl rfl ?_
   exact ⟨rfl, hS.ext⟩

theorem w17 {M : Prop} {W : World} {H : Hp} (hH : H.le (hp W)) (hg : Gv M H)  {r : Bool} (hr : m17 = some r) : Calls Tryz.prog 17 [].toArray W (RetS M W (.bool r)) := by
 unfold m17 at hr
 refine enterG (M := M) Tryz.func17 rfl Tryz.ntmps17 rfl hH ?_
 refine sq (rg (a1 rfl (on (sq (rg ?_)))))
 obtain ⟨r1, hx2, hr3⟩ := bd_some hr
 refine clK C48 rfl rfl rfl rfl (fun w H hH le => w48 hH  hx2) ?_
 rintro v_ K4 ⟨cs5, ad7, cap8, rfl, hr6, hl9⟩
 have hr10 := hr6
 obtain ⟨ad11, cap12, ad14, cap15, ad17, cap18, rfl, hl13, hl16, hl19⟩ := hr6
 have := hl13.len
 have := hl16.len
 have := hl19.len
 have := hl9.len
 refine m1 rfl (ex rfl rfl rfl (ex rfl rfl rfl (va (cs := [.slice ad11 r1.1.numbers.length cap12, .slice ad14 r1.1.names.length cap15, .slice ad17 r1.1.nots.length cap18]) Tryz.zeroValue36 Z36 rfl rfl rfl rfl rfl rfl rfl rfl fun q20 K21 hK22 => (a1 rfl (on (sq (rg (ldA G36 Z36 rfl rfl (sS 0 rfl hK22) rfl (bS (cs := [.string (bs [83, 109, 121, 116, 104]), .string (bs [100, 105, 100]), .string (bs [110, 111, 116]), .string (bs [112, 97, 121]), .string (bs [116, 101, 110]), .string (bs [48, 48, 55]), .string (bs [56])]) T4.E24 rfl rfl rfl rfl fun q23 K24 hq25 hK26 => ?_)))))))))
 have hl27 : Sl (Flat encS) 1 K24 (some q23) 7 ([[83, 109, 121, 116, 104], [100, 105, 100], [110, 111, 116], [112, 97, 121], [116, 101, 110], [48, 48, 55], [56]] : List Bytes) := Sl.litR (css := [[.string (bs [83, 109, 121, 116, 104])], [.string (bs [100, 105, 100])], [.string (bs [110, 111, 116])], [.string (bs [112, 97, 121])], [.string (bs [116, 101, 110])], [.string (bs [48, 48, 55])], [.string (bs [56])]]) (l := ([[83, 109, 121, 116, 104], [100, 105, 100], [110, 111, 116], [112, 97, 121], [116, 101, 110], [48, 48, 55], [56]] : List Bytes)) ⟨⟨rfl, rfl, rfl⟩, ⟨rfl, rfl, rfl⟩, ⟨rfl, rfl, rfl⟩, ⟨rfl, rfl, rfl⟩, ⟨rfl, rfl, rfl⟩, ⟨rfl, rfl, rfl⟩, ⟨rfl, rfl, rfl⟩, tv⟩ hq25 hK26 rfl
 have := hl27.len
 obtain ⟨r28, hx29, hr30⟩ := bd_some hr3
 refine clK C26 rfl rfl rfl rfl (fun w H hH le => w26 hH (hg.mono (le.at 3 rfl)) r1.1 (RLexicon.mono _ _ _ _ (le.at 2 rfl) hr10) (hl27.mono (Flat.mono _) (le.at 0 rfl)) hx29) ?_
 rintro v_ K31 ⟨ad32, cap33, rfl, hl34⟩
 have := hl34.len
 refine m1 rfl (ex rfl rfl rfl (ex rfl rfl rfl (a1 rfl (a1 rfl (on (sq (rg (ldA G36 Z36 rfl rfl (sS 2 rfl hK22) rfl (m1 rfl (bS (cs := [.string (bs [110, 111, 116]), .string (bs [116, 101, 110])]) T4.E24 rfl rfl rfl rfl fun q35 K36 hq37 hK38 => ?_))))))))))
 have hl39 : Sl (Flat encS) 1 K36 (some q35) 2 ([[110, 111, 116], [116, 101, 110]] : List Bytes) := Sl.litR (css := [[.string (bs [110, 111, 116])], [.string (bs [116, 101, 110])]]) (l := ([[110, 111, 116], [116, 101, 110]] : List Bytes)) ⟨⟨rfl, rfl, rfl⟩, ⟨rfl, rfl, rfl⟩, tv⟩ hq37 hK38 rfl
 have := hl39.len
 refine bS (cs := [.string (bs [110, 101, 118, 101, 114]), .string (bs [49, 50])]) T4.E24 rfl rfl rfl rfl fun q40 K41 hq42 hK43 => ?_
 have hl44 : Sl (Flat encS) 1 K41 (some q40) 2 ([[110, 101, 118, 101, 114], [49, 50]] : List Bytes) := Sl.litR (css := [[.string (bs [110, 101, 118, 101, 114])], [.string (bs [49, 50])]]) (l := ([[110, 101, 118, 101, 114], [49, 50]] : List Bytes)) ⟨⟨rfl, rfl, rfl⟩, ⟨rfl, rfl, rfl⟩, tv⟩ hq42 hK43 rfl
 have := hl44.len
 obtain ⟨r45, hx46, hr47⟩ := bd_some hr30
 refine clS C18 rfl rfl rfl rfl (fun w H hH le => w18 hH (hg.mono (le.at 6 rfl)) r1.1 (RLexicon.mono _ _ _ _ (le.at 5 rfl) hr10) (hl9.mono (Flat.mono _) (le.at 5 rfl)) (hl39.mono (Flat.mono _) (le.at 1 rfl)) (hl44.mono (Flat.mono _) (le.at 0 rfl)) hx46) (m1 rfl (ex rfl rfl rfl (ex rfl rfl rfl (a1 rfl (a1 rfl (on (sq (rg ?_))))))))
 obtain ⟨r48, hx49, hr50⟩ := bd_some hr47
 refine clK C49 rfl rfl rfl rfl (fun w H hH le => w49 hH  hx49) ?_
 rintro v_ K51 ⟨cs52, ad54, cap55, rfl, hr53, hl56⟩
 have hr57 := hr53
 obtain ⟨ad58, cap59, rfl, hl60⟩ := hr53
 have := hl60.len
 have := hl56.len
 refine m1 rfl (ex rfl rfl rfl (ex rfl rfl rfl (va (cs := [.slice ad58 r48.1.words.length cap59, .int .i64 r48.1.out, .int .i64 r48.1.within]) Tryz.zeroValue56 Z56 rfl rfl rfl rfl rfl rfl rfl rfl fun q61 K62 hK63 => (a1 rfl (on (sq (rg (ldA G36 Z36 rfl rfl (sS 6 rfl hK22) rfl (m1 rfl (ldA G56 Z56 rfl rfl (sS 0 rfl hK63) rfl (m1 rfl ?_)))))))))))
 obtain ⟨r64, hx65, hr66⟩ := bd_some hr50
 refine clK C29 rfl rfl rfl rfl (fun w H hH le => w29 hH (hg.mono (le.at 8 rfl)) r1.1 (RLexicon.mono _ _ _ _ (le.at 7 rfl) hr10) (hl9.mono (Flat.mono _) (le.at 7 rfl)) r48.1 (RReport.mono _ _ _ _ (le.at 1 rfl) hr57) (hl56.mono (RRequest.mono) (le.at 1 rfl)) hx65) ?_
 rintro v_ K67 ⟨ad68, cap69, rfl, hl70⟩
 have := hl70.len
 refine m1 rfl (ex rfl rfl rfl (ex rfl rfl rfl (a1 rfl (a1 rfl (on (sq ?_))))))
 obtain ⟨t102, hx103, hr104⟩ := bd_some hr66
 refine jn (fun a w => St M W H [K67, K62, K51, K41, K36, K31, K24, K21, K4, H] [] w ∧ Has [] 69 a [(0, .bool t102)]) ?_ ?_
 ·refine rg (m1 rfl (eqI rfl rfl rfl (m1 rfl ?_)))
  by_cases hb105 : r28.2 = 0
  ·have hr106 := if_p hb105 hx103
   refine gt hb105 rfl (m1 rfl (gt hb105 rfl (bu (cs := [.int .u8 2, .int .i64 0]) T4.B113 rfl rfl rfl (gt hb105 rfl (bu (cs := [.int .u8 3, .int .i64 0]) T4.B113 rfl rfl rfl (gt hb105 rfl (bu (cs := [.int .u8 1, .int .i64 10]) T4.B113 rfl rfl rfl (gt hb105 rfl (bu (cs := [.int .u8 1, .int .i64 8]) T4.B113 rfl rfl rfl (gt hb105 rfl (bS (cs := [.int .u8 2, .int .i64 0, .int .u8 3, .int .i64 0, .int .u8 1, .int .i64 10, .int .u8 1, .int .i64 8]) T4.E44 rfl rfl rfl rfl fun q107 K108 hq109 hK110 => ?_)))))))))))
   have hl111 : Sl (Flat encMark) 2 K108 (some q107) 4 ([(⟨2, 0⟩ : Mark), (⟨3, 0⟩ : Mark), (⟨1, 10⟩ : Mark), (⟨1, 8⟩ : Mark)] : List Mark) := Sl.litR (css := [[.int .u8 2, .int .i64 0], [.int .u8 3, .int .i64 0], [.int .u8 1, .int .i64 10], [.int .u8 1, .int .i64 8]]) (l := ([(⟨2, 0⟩ : Mark), (⟨3, 0⟩ : Mark), (⟨1, 10⟩ : Mark), (⟨1, 8⟩ : Mark)] : List Mark)) ⟨⟨rfl, rfl, rfl⟩, ⟨rfl, rfl, rfl⟩, ⟨rfl, rfl, rfl⟩, ⟨rfl, rfl, rfl⟩, tv⟩ hq109 hK110 rfl
   have := hl111.len
   refine gt hb105 rfl ?_
   obtain ⟨r112, hx113, hr114⟩ := bd_some hr106
   refine clS C41 rfl rfl rfl rfl (fun w H hH le => w41 hH (hl34.mono (Flat.mono _) (le.at 6 rfl)) (hl111.mono (Flat.mono _) (le.at 0 rfl)) hx113) (pt hb105 rfl rfl (m1 rfl ?_))
   rcases Bool.eq_false_or_eq_true (r112) with hb115 | hb115
   ·have hr116 := if_p hb115 hr114
    refine gN rfl rfl (hb115) (m1 rfl (gN rfl rfl (hb115) (eqI rfl rfl rfl (pT rfl rfl (hb115) rfl (m1 rfl ?_)))))
    by_cases hb117 : r45.2 = 0
    ·have hr118 := if_p hb117 hr116
     refine gt hb117 rfl (m1 rfl (gt hb117 rfl (eqI rfl rfl rfl (pt hb117 rfl rfl (m1 rfl ?_)))))
     by_cases hb119 : r45.1 = 0
     ·have hr120 := if_p hb119 hr118
      refine gt hb119 rfl (m1 rfl (gt hb119 rfl (eqI rfl rfl rfl (pt hb119 rfl rfl (m1 rfl ?_)))))
      by_cases hb121 : r64.2 = 0
      ·have hr122 := if_p hb121 hr120
       refine gt hb121 rfl (m1 rfl (gt hb121 rfl (bS (cs := [.int .i64 0, .int .i64 0, .int .i64 5, .int .i64 11, .int .i64 9]) T4.E59 rfl rfl rfl rfl fun q123 K124 hq125 hK126 => ?_)))
       have hl127 : Sl (Flat (encI .i64)) 1 K124 (some q123) 5 ([0, 0, 5, 11, 9] : List Int) := Sl.litR (css := [[.int .i64 0], [.int .i64 0], [.int .i64 5], [.int .i64 11], [.int .i64 9]]) (l := ([0, 0, 5, 11, 9] : List Int)) ⟨⟨rfl, rfl, rfl⟩, ⟨rfl, rfl, rfl⟩, ⟨rfl, rfl, rfl⟩, ⟨rfl, rfl, rfl⟩, ⟨rfl, rfl, rfl⟩, tv⟩ hq125 hK126 rfl
       have := hl127.len
       refine gt hb121 rfl ?_
       obtain ⟨r128, hx129, hr130⟩ := bd_some hr122
       refine clS C50 rfl rfl rfl rfl (fun w H hH le => w50 hH (hl70.mono (Flat.mono _) (le.at 2 rfl)) (hl127.mono (Flat.mono _) (le.at 0 rfl)) hx129) (pt hb121 rfl rfl (a1 rfl (on ?_)))
       cases hr130
       intro a w hS hA
       exact ⟨hS.selH [2, 3, 4, 5, 6, 7, 8, 9, 10, 11] rfl, hA.cut ⟨rfl, tv⟩⟩
      ·have hr131 := if_n hb121 hr120
       refine gf hb121 rfl (gf hb121 rfl (gf hb121 rfl (pf hb121 rfl rfl (a1 rfl (on ?_)))))
       cases hr131
       intro a w hS hA
       exact ⟨hS.selH [1, 2, 3, 4, 5, 6, 7, 8, 9, 10] rfl, hA.cut ⟨rfl, tv⟩⟩
     ·have hr132 := if_n hb119 hr118
      refine gf hb119 rfl (gf hb119 rfl (pf hb119 rfl rfl (m1 rfl (gF rfl rfl rfl rfl (gF rfl rfl rfl rfl (gF rfl rfl rfl rfl (pF rfl rfl rfl rfl (a1 rfl (on ?_)))))))))
      cases hr132
      intro a w hS hA
      exact ⟨hS.selH [1, 2, 3, 4, 5, 6, 7, 8, 9, 10] rfl, hA.cut ⟨rfl, tv⟩⟩
    ·have hr133 := if_n hb117 hr116
     refine gf hb117 rfl (gf hb117 rfl (pf hb117 rfl rfl (m1 rfl (gF rfl rfl rfl rfl (gF rfl rfl rfl rfl (pF rfl rfl rfl rfl (m1 rfl (gF rfl rfl rfl rfl (gF rfl rfl rfl rfl (gF rfl rfl rfl rfl (pF rfl rfl rfl rfl ?_)))))))))))
     refine a1 rfl (on ?_)
     cases hr133
     intro a w hS hA
     exact ⟨hS.selH [1, 2, 3, 4, 5, 6, 7, 8, 9, 10] rfl, hA.cut ⟨rfl, tv⟩⟩
   ·have hr134 := if_f hb115 hr114
    refine gF rfl rfl (hb115) rfl (gF rfl rfl (hb115) rfl (pF rfl rfl (hb115) rfl (m1 rfl (gF rfl rfl rfl rfl (gF rfl rfl rfl rfl (pF rfl rfl rfl rfl (m1 rfl (gF rfl rfl rfl rfl (gF rfl rfl rfl rfl (pF rfl rfl rfl rfl (m1 rfl ?_)))))))))))
    refine gF rfl rfl rfl rfl (gF rfl rfl rfl rfl (gF rfl rfl rfl rfl (pF rfl rfl rfl rfl (a1 rfl (on ?_)))))
    cases hr134
    intro a w hS hA
    exact ⟨hS.selH [1, 2, 3, 4, 5, 6, 7, 8, 9, 10] rfl, hA.cut ⟨rfl, tv⟩⟩
  ·have hr135 := if_n hb105 hx103
   refine gf hb105 rfl (gf hb105 rfl (gf hb105 rfl (gf hb105 rfl (gf hb105 rfl (gf hb105 rfl (gf hb105 rfl (pf hb105 rfl rfl (m1 rfl (gF rfl rfl rfl rfl (gF rfl rfl rfl rfl (pF rfl rfl rfl rfl ?_)))))))))))
   refine m1 rfl (gF rfl rfl rfl rfl (gF rfl rfl rfl rfl (pF rfl rfl rfl rfl (m1 rfl (gF rfl rfl rfl rfl (gF rfl rfl rfl rfl (pF rfl rfl rfl rfl (m1 rfl (gF rfl rfl rfl rfl (gF rfl rfl rfl rfl (gF rfl rfl rfl rfl ?_)))))))))))
   refine pF rfl rfl rfl rfl (a1 rfl (on ?_))
   cases hr135
   exact cu ⟨rfl, tv⟩
 ·rintro a w ⟨hS, hA⟩
  refine TG.ap ?_ hS hA
  refine rt_ ?_
  cases hr104
  intro a w hS hA
  refine ret1 hA rfl rfl ?_
  exact ⟨rfl, hS.ext⟩

theorem w21 {M : Prop} {W : World} {H : Hp} (hH : H.le (hp W)) {ad_l_0 : Option Addr} {cap_l_0 : Nat} {l_0 : List Bytes} (h_l_0 : Sl (Flat encS) 1 H ad_l_0 cap_l_0 l_0) {r : List Bytes} (hr : m21 l_0 = some r) : Calls Tryz.prog 21 [.slice ad_l_0 l_0.length cap_l_0].toArray W (RetK M H W (fun v K => ∃ (ad0 : Option Addr) (cap0 : Nat), v = .slice ad0 r.length cap0 ∧ Sl (Flat encS) 1 K ad0 cap0 r)) := by
 have := h_l_0.len
 unfold m21 at hr
 refine enterG (M := M) Tryz.func21 rfl Tryz.ntmps21 rfl hH ?_
 refine sq (rg (a1 rfl (on (sq (rg (m1 rfl (TG.nilRow 1 9 1 ?_)))))))
 obtain ⟨hk1, hr2⟩ := chk_some hr
 have := lenA ([] : List Bytes) l_0
 refine apS 1 (enc := encS) (l := ([] : List Bytes)) (m := l_0) T4.E24 rfl rfl rfl rfl rfl rfl h_l_0 0 rfl (fun _ => rfl) (fun _ => rfl) rfl hk1 fun ad3 cap4 => (a1 rfl (on (rt_ ?_)))
 cases hr2
 intro a w hS hA
 refine ret1 hA rfl rfl ?_
 exact ⟨⟨_, _, rfl, (hS.listOut 1 rfl (fun _ => rfl))⟩, hS.ext⟩

theorem w19 {M : Prop} {W : World} {H : Hp} (hH : H.le (hp W)) {cs_l_0 : List Value} (l_0 : Lexicon) (h_l_0 : (RLexicon) H cs_l_0 l_0) {r : Lexicon} (hr : m19 l_0 = some r) : Calls Tryz.prog 19 [.agg cs_l_0.toArray].toArray W (RetK M H W (fun v K => ∃ (cs0 : List Value), v = .agg cs0.toArray ∧ (RLexicon) K cs0 r)) := by
 have hh_l_0 := h_l_0
 obtain ⟨ad1, cap2, ad4, cap5, ad7, cap8, rfl, hl3, hl6, hl9⟩ := h_l_0
 have := hl3.len
 have := hl6.len
 have := hl9.len
 unfold m19 at hr
 refine enterG (M := M) Tryz.func19 rfl Tryz.ntmps19 rfl hH ?_
 refine sq (rg (bI (cs := [.slice ad1 l_0.numbers.length cap2, .slice ad4 l_0.names.length cap5, .slice ad7 l_0.nots.length cap8]) rfl rfl rfl fun q10 K11 hK12 => (al 1 (cs := [.slice none 0 0, .slice none 0 0, .slice none 0 0]) Tryz.zeroValue36 rfl rfl fun b13 => (on (sq (rg (fb 2 U26 rfl rfl rfl rfl Z24 (ld G24 rfl rfl ((sS 0 rfl hK12).drop 2) rfl ?_))))))))
 obtain ⟨r14, hx15, hr16⟩ := bd_some hr
 refine clK C21 rfl rfl rfl rfl (fun w H hH le => w21 hH (hl9.mono (Flat.mono _) (le.at 1 rfl)) hx15) ?_
 rintro v_ K17 ⟨ad18, cap19, rfl, hl20⟩
 have := hl20.len
 refine bu (cs := [.slice none 0 0, .slice none 0 0, .slice ad18 r14.length cap19]) T4.B36 rfl rfl rfl (al 2 (cs := [.slice none 0 0, .slice none 0 0, .slice none 0 0]) Tryz.zeroValue36 rfl rfl fun b21 => (sto 2 (cs := [.slice none 0 0, .slice none 0 0, .slice ad18 r14.length cap19]) Z36 rfl rfl rfl rfl rfl rfl rfl (on (sq (sq (rg (a1 rfl (on (TG.nilRow 4 123 2 (TG.as 4 (z := Own.list none 0 123 2 encNumber ([] : List Number)) rfl rfl ?_))))))))))
 obtain ⟨e103, hl104, hr105⟩ := bd_some hr16
 refine jn (fun a w => ∃ (ad106 : Option Addr) (cap107 : Nat), St M W H [K17, K11, H] [(4, Own.list ad106 cap107 123 2 encNumber e103), (2, cel b21 36 [.slice ad106 e103.length cap107, .slice none 0 0, .slice ad18 r14.length cap19]), (1, cel b13 36 [.slice none 0 0, .slice none 0 0, .slice none 0 0])] w ∧ Has [] 54 a [(1, .pointer (some q10)), (2, .pointer (some (⟨b13, 0, none⟩))), (3, .pointer (some (⟨b21, 0, none⟩)))]) ?_ ?_
 ·refine bk ?_
  refine lp hl104 (fun s108 a w => ∃ (ad109 : Option Addr) (cap110 : Nat), St M W H [K17, K11, H] [(4, Own.list ad109 cap110 123 2 encNumber s108.2), (2, cel b21 36 [.slice ad109 s108.2.length cap110, .slice none 0 0, .slice ad18 r14.length cap19]), (1, cel b13 36 [.slice none 0 0, .slice none 0 0, .slice none 0 0])] w ∧ Has [] 54 a [(1, .pointer (some q10)), (2, .pointer (some (⟨b13, 0, none⟩))), (3, .pointer (some (⟨b21, 0, none⟩))), (4, .int .i64 (s108.1 : Int))]) ?_ ?_
  ·intro a w hS hA
   exact ⟨none, 0, hS, hA.cut ⟨rfl, rfl, rfl, rfl, tv⟩⟩
  ·rintro j s108 y113 hr111 hz112 a w ⟨ad109, cap110, hS, hA⟩
   refine TG.ap ?_ hS hA
   unfold m19_1 at hr111
   refine sq (sq (rg (m1 rfl (fb 0 U26 rfl rfl rfl rfl Z22 (ld G22 rfl rfl ((sS 1 rfl hK12).take 1) rfl (lnL U22 rfl rfl (ltI rfl rfl rfl (on ?_))))))))
   refine ci rfl (fun hc117 => ?_) (fun hc117 => ?_)
   ·have hr118 := if_p hc117 hr111
    refine sk (sq (bk ?_))
    obtain ⟨x140, hx141, hr142⟩ := bd_some hr118
    obtain ⟨p143, rfl⟩ := hl3.adr hx141
    obtain ⟨cs144, hcs145, hq146, hr147⟩ := hl3.at hx141
    obtain rfl := hr147
    refine drG 16 mixed (by kernel_rfl) rfl (dt rfl (fb 0 U36 rfl rfl rfl rfl Z34 fin1) (dt rfl (ld G34 rfl rfl ((sO 2 rfl).take 1) rfl fin1) (dt rfl (fb 0 U26 rfl rfl rfl rfl Z22 fin1) (dt rfl (ld G22 rfl rfl ((sS 2 rfl hK12).take 1) rfl fin1) (dt rfl (m1 rfl fin1) (dt rfl (iaP U22 Z112 rfl rfl rfl rfl (lt_of hx141) fin1) (dt rfl (fb 0 U112 rfl rfl rfl rfl Z9 fin1) (dt rfl (ld G9 rfl rfl ((sS 3 rfl hq146).take 1) rfl fin1) (dt rfl (fb 0 U26 rfl rfl rfl rfl Z22 fin1) (dt rfl (ld G22 rfl rfl ((sS 2 rfl hK12).take 1) rfl fin1) (dt rfl (m1 rfl fin1) ?_)))))))))))
    refine dt rfl (iaP U22 Z112 rfl rfl rfl rfl (lt_of hx141) fin1) (dt rfl (fb 1 U112 rfl rfl rfl rfl Z3 fin1) (dt rfl (ld G3 rfl rfl ((sS 3 rfl hq146).drop 1) rfl fin1) (dt rfl (bu (cs := [.string (bs x140.text), .int .i64 x140.value]) T4.B123 rfl rfl rfl fin1) ?_)))
    refine DF.und (α := Option Addr × Nat) (none, 0) (fun q => .slice q.1 1 q.2) (fun (q : Option Addr × Nat) K => Sl (Flat encNumber) 2 K q.1 q.2 ([x140] : List Number)) (fun _ _ _ h x => x.mono (Flat.mono _) h) (by kernel_rfl) rfl (fun a w K hS hA hF => TG.pa hS hA (bS (cs := [.string (bs x140.text), .int .i64 x140.value]) T4.E34 rfl rfl rfl rfl fun q148 K149 hq150 hK151 => by
      have hl152 : Sl (Flat encNumber) 2 K149 (some q148) 1 ([x140] : List Number) := Sl.litR (css := [[.string (bs x140.text), .int .i64 x140.value]]) (l := ([x140] : List Number)) ⟨⟨rfl, rfl, rfl⟩, tv⟩ hq150 hK151 rfl
      have := hl152.len
      exact finU (f := fun q => .slice q.1 1 q.2) (G := (fun (q : Option Addr × Nat) K => Sl (Flat encNumber) 2 K q.1 q.2 ([x140] : List Number))) (_, _) (fun _ _ _ h x => x.mono (Flat.mono _) h) hl152)) ?_
    rintro ⟨ad154, cap155⟩
    refine DF.nil fun K156 hF => ?_
    obtain ⟨hu153, _⟩ := hF
    have := hu153.len
    obtain ⟨hk157, hr158⟩ := chk_some hr142
    have := lenA s108.2 ([x140] : List Number)
    refine apS 4 (enc := encNumber) (l := s108.2) (m := ([x140] : List Number)) T4.E34 rfl rfl rfl rfl rfl rfl hu153 0 rfl (fun _ => rfl) (fun _ => rfl) rfl hk157 fun ad159 cap160 => (fb 0 U36 rfl rfl rfl rfl Z34 (sto 2 (cs := [.slice ad159 ((s108.2 ++ ([x140] : List Number)).length) cap160]) Z34 rfl rfl rfl rfl rfl rfl rfl (on (rg (m1 rfl (adI rfl rfl rfl (by omega) (a1 rfl (on ?_))))))))
    cases hr158
    intro a w hS hA
    exact ⟨_, hz112, ad159, cap160, hS.selH [1, 2, 3] rfl, hA.cut ⟨rfl, rfl, rfl, rfl, tv⟩⟩
   ·have hr161 := if_n hc117 hr111
    refine xt rfl ?_
    cases hr161
    obtain rfl := Fin.out hz112
    intro a w hS hA
    exact ⟨ad109, cap110, hS, hA.cut ⟨rfl, rfl, rfl, tv⟩⟩
 ·rintro a w ⟨ad106, cap107, hS, hA⟩
  refine TG.ap ?_ hS hA
  refine sq (sq (rg (a1 rfl (on (TG.nilRow 6 24 1 ?_)))))
  have hR208 : Rows (RSl (Flat encS) 1) 1 H [] ([] : List (List Bytes)) := tv
  refine TG.as 6 (z := Own.rows none 0 24 1 [] ([] : List (List Bytes))) rfl rfl ?_
  obtain ⟨e314, hl315, hr316⟩ := bd_some hr105
  refine jn (fun a w => ∃ (ad317 : Option Addr) (cap318 : Nat) (css319 : List (List Value)) (K320 : Hp), St M W H [K320, K17, K11, H] [(6, Own.rows ad317 cap318 24 1 css319 e314), (4, Own.list ad106 cap107 123 2 encNumber e103), (2, cel b21 36 [.slice ad106 e103.length cap107, .slice ad317 e314.length cap318, .slice ad18 r14.length cap19]), (1, cel b13 36 [.slice none 0 0, .slice none 0 0, .slice none 0 0])] w ∧ Has [] 54 a [(2, .pointer (some (⟨b13, 0, none⟩))), (3, .pointer (some (⟨b21, 0, none⟩)))] ∧ Rows (RSl (Flat encS) 1) 1 K320 css319 e314) ?_ ?_
  ·refine bk ?_
   refine lp hl315 (fun s322 a w => ∃ (ad323 : Option Addr) (cap324 : Nat) (css325 : List (List Value)) (K326 : Hp), St M W H [K326, K17, K11, H] [(6, Own.rows ad323 cap324 24 1 css325 s322.2), (4, Own.list ad106 cap107 123 2 encNumber e103), (2, cel b21 36 [.slice ad106 e103.length cap107, .slice ad323 s322.2.length cap324, .slice ad18 r14.length cap19]), (1, cel b13 36 [.slice none 0 0, .slice none 0 0, .slice none 0 0])] w ∧ Has [] 54 a [(1, .pointer (some q10)), (2, .pointer (some (⟨b13, 0, none⟩))), (3, .pointer (some (⟨b21, 0, none⟩))), (5, .int .i64 (s322.1 : Int))] ∧ Rows (RSl (Flat encS) 1) 1 K326 css325 s322.2) ?_ ?_
   ·intro a w hS hA
    exact ⟨none, 0, [], H, hS.selH [2, 0, 1, 2] rfl, hA.cut ⟨rfl, rfl, rfl, rfl, tv⟩, hR208⟩
   ·rintro j s322 y330 hr328 hz329 a w ⟨ad323, cap324, css325, K326, hS, hA, hR327⟩
    refine TG.ap ?_ hS hA
    unfold m19_2 at hr328
    refine sq (sq (rg (m1 rfl (fb 1 U26 rfl rfl rfl rfl Z23 (ld G23 rfl rfl (((sS 2 rfl hK12).drop 1).take 1) rfl (lnL U23 rfl rfl (ltI rfl rfl rfl (on ?_))))))))
    refine ci rfl (fun hc334 => ?_) (fun hc334 => ?_)
    ·have hr335 := if_p hc334 hr328
     refine sk (sq (bk ?_))
     obtain ⟨x377, hx378, hr379⟩ := bd_some hr335
     obtain ⟨p380, rfl⟩ := hl6.adr hx378
     obtain ⟨cs381, hcs382, hq383, hr384⟩ := hl6.at hx378
     have hr385 := hr384
     obtain ⟨ad386, cap387, rfl, hl388⟩ := hr384
     have := hl388.len
     obtain ⟨r389, hx390, hr391⟩ := bd_some hr379
     refine drG 9 mixed (by kernel_rfl) rfl (dt rfl (fb 1 U36 rfl rfl rfl rfl Z23 fin1) (dt rfl (ld G23 rfl rfl (((sO 2 rfl).drop 1).take 1) rfl fin1) (dt rfl (fb 1 U26 rfl rfl rfl rfl Z23 fin1) (dt rfl (ld G23 rfl rfl (((sS 3 rfl hK12).drop 1).take 1) rfl fin1) (dt rfl (m1 rfl fin1) (dt rfl (iaP U23 Z24 rfl rfl rfl rfl (lt_of hx378) fin1) (dt rfl (ld G24 rfl rfl (sS 4 rfl hq383) rfl fin1) ?_)))))))
     refine DF.und (α := Option Addr × Nat) (none, 0) (fun q => .slice q.1 r389.length q.2) (fun (q : Option Addr × Nat) K => Sl (Flat encS) 1 K q.1 q.2 r389) (fun _ _ _ h x => x.mono (Flat.mono _) h) (by kernel_rfl) rfl (fun a w K hS hA hF => TG.pa hS hA (clK C21 rfl rfl rfl rfl (fun w H hH le => w21 hH (hl388.mono (Flat.mono _) (le.at 4 rfl)) hx390) (by
       rintro v_ K392 ⟨ad393, cap394, rfl, hl395⟩
       exact finU (f := fun q => .slice q.1 r389.length q.2) (G := (fun (q : Option Addr × Nat) K => Sl (Flat encS) 1 K q.1 q.2 r389)) (_, _) (fun _ _ _ h x => x.mono (Flat.mono _) h) hl395))) ?_
     rintro ⟨ad397, cap398⟩
     refine DF.und (α := Option Addr × Nat) (none, 0) (fun q => .slice q.1 1 q.2) (fun (q : Option Addr × Nat) K => Sl (RSl (Flat encS) 1) 1 K q.1 q.2 ([r389] : List (List Bytes))) (fun _ _ _ h x => x.mono (RSl.mono (Flat.mono _)) h) (by kernel_rfl) rfl (fun a w K hS hA hF => TG.pa hS hA (bS (cs := [.slice ad397 r389.length cap398]) T4.E23 rfl rfl rfl rfl fun q399 K400 hq401 hK402 => by
       refine TG.pack (fun K => Sl (RSl (Flat encS) 1) 1 K (some q399) 1 ([r389] : List (List Bytes))) (fun H le => Sl.litR (css := [[.slice ad397 r389.length cap398]]) (l := ([r389] : List (List Bytes))) ⟨⟨rfl, rfl, ⟨_, _, rfl, ((hF.1 rfl).mono (Flat.mono _) (le.at 1 rfl))⟩⟩, tv⟩ hq401 (hK402.mono (le.at 0 rfl)) rfl) fun K404 hl403 => ?_
       have := hl403.len
       refine sk1 ?_
       exact finU (f := fun q => .slice q.1 1 q.2) (G := (fun (q : Option Addr × Nat) K => Sl (RSl (Flat encS) 1) 1 K q.1 q.2 ([r389] : List (List Bytes)))) (_, _) (fun _ _ _ h x => x.mono (RSl.mono (Flat.mono _)) h) hl403)) ?_
     rintro ⟨ad406, cap407⟩
     refine DF.nil fun K408 hF => ?_
     obtain ⟨hu405, hu396, _⟩ := hF
     have := hu396.len
     have := hu405.len
     obtain ⟨hk409, hr410⟩ := chk_some hr391
     have := lenA s322.2 ([r389] : List (List Bytes))
     refine TG.pack (fun K => Sl (RSl (Flat encS) 1) 1 K ad406 cap407 ([r389] : List (List Bytes)) ∧ Rows (RSl (Flat encS) 1) 1 K css325 s322.2) (fun H le => ⟨hu405.mono (RSl.mono (Flat.mono _)) (le.at 0 rfl), hR327.mono (RSl.mono (Flat.mono _)) (le.at 1 rfl)⟩) fun K413 ⟨hm414, hR415⟩ => (apR 6 (l := s322.2) (m := ([r389] : List (List Bytes))) T4.E23 rfl rfl rfl rfl rfl rfl hm414 hR415 RSl.one rfl hk409 fun ad411 cap412 css417 hR416 => (fb 1 U36 rfl rfl rfl rfl Z23 (sto 2 (cs := [.slice ad411 ((s322.2 ++ ([r389] : List (List Bytes))).length) cap412]) Z23 rfl rfl rfl rfl rfl rfl rfl (on (rg (m1 rfl (adI rfl rfl rfl (by omega) (a1 rfl (on ?_)))))))))
     cases hr410
     intro a w hS hA
     exact ⟨_, hz329, ad411, cap412, css417, K413, hS.selH [0, 3, 4, 5] rfl, hA.cut ⟨rfl, rfl, rfl, rfl, tv⟩, hR416⟩
    ·have hr418 := if_n hc334 hr328
     refine xt rfl ?_
     cases hr418
     obtain rfl := Fin.out hz329
     intro a w hS hA
     exact ⟨ad323, cap324, css325, K326, hS, hA.cut ⟨rfl, rfl, tv⟩, hR327⟩
  ·rintro a w ⟨ad317, cap318, css319, K320, hS, hA, hR321⟩
   refine TG.ap ?_ hS hA
   refine sq (rg (ldA G36 Z36 rfl rfl (sO 2 rfl) rfl (sto 1 (cs := [.slice ad106 e103.length cap107, .slice ad317 e314.length cap318, .slice ad18 r14.length cap19]) Z36 rfl rfl rfl rfl rfl rfl rfl (on (rt_ ?_)))))
   cases hr316
   intro a w hS hA
   refine rc1 hA rfl (ResAt.cell rfl (loadsA G36 Z36 (cell_at (hS.get (t := 1) rfl)) rfl)) ?_
   exact ⟨⟨_, rfl, ⟨_, _, _, _, _, _, rfl, (hS.listOut 4 rfl (fun _ => rfl)), (hS.rowsOut 6 rfl 0 rfl (RSl.mono (Flat.mono _)) hR321), (hl20.mono (Flat.mono _) (hS.grow 1 rfl))⟩⟩, hS.ext⟩

theorem w20 {M : Prop} {W : World} {H : Hp} (hH : H.le (hp W)) {ad_l_0 : Option Addr} {cap_l_0 : Nat} {l_0 : List Swap} (h_l_0 : Sl (Flat encSwap) 3 H ad_l_0 cap_l_0 l_0) {r : List Swap} (hr : m20 l_0 = some r) : Calls Tryz.prog 20 [.slice ad_l_0 l_0.length cap_l_0].toArray W (RetK M H W (fun v K => ∃ (ad0 : Option Addr) (cap0 : Nat), v = .slice ad0 r.length cap0 ∧ Sl (Flat encSwap) 3 K ad0 cap0 r)) := by
 have := h_l_0.len
 unfold m20 at hr
 refine enterG (M := M) Tryz.func20 rfl Tryz.ntmps20 rfl hH ?_
 refine sq (rg (a1 rfl (on (sq (rg (a1 rfl (on (sq (sq (rg (a1 rfl ?_)))))))))))
 refine on (TG.nilRow 2 109 3 (TG.as 2 (z := Own.list none 0 109 3 encSwap ([] : List Swap)) rfl rfl ?_))
 obtain ⟨e82, hl83, hr84⟩ := bd_some hr
 refine jn (fun a w => ∃ (ad85 : Option Addr) (cap86 : Nat), St M W H [H] [(2, Own.list ad85 cap86 109 3 encSwap e82)] w ∧ Has [] 31 a [(3, .slice ad85 e82.length cap86)]) ?_ ?_
 ·refine bk ?_
  refine lp hl83 (fun s87 a w => ∃ (ad88 : Option Addr) (cap89 : Nat), St M W H [H] [(2, Own.list ad88 cap89 109 3 encSwap s87.2)] w ∧ Has [] 31 a [(0, .slice ad_l_0 l_0.length cap_l_0), (3, .slice ad88 s87.2.length cap89), (4, .int .i64 (s87.1 : Int))]) ?_ ?_
  ·intro a w hS hA
   exact ⟨none, 0, hS, hA.cut ⟨rfl, rfl, rfl, tv⟩⟩
  ·rintro j s87 y92 hr90 hz91 a w ⟨ad88, cap89, hS, hA⟩
   refine TG.ap ?_ hS hA
   unfold m20_1 at hr90
   refine sq (sq (rg (m1 rfl (m1 rfl (lnL U27 rfl rfl (ltI rfl rfl rfl (on ?_)))))))
   refine ci rfl (fun hc96 => ?_) (fun hc96 => ?_)
   ·have hr97 := if_p hc96 hr90
    refine sk (sq (bk ?_))
    obtain ⟨x119, hx120, hr121⟩ := bd_some hr97
    obtain ⟨p122, rfl⟩ := h_l_0.adr hx120
    obtain ⟨cs123, hcs124, hq125, hr126⟩ := h_l_0.at hx120
    obtain rfl := hr126
    refine drG 18 mixed (by kernel_rfl) rfl (dt rfl (m1 rfl fin1) (dt rfl (m1 rfl fin1) (dt rfl (m1 rfl fin1) (dt rfl (iaP U27 Z48 rfl rfl rfl rfl (lt_of hx120) fin1) (dt rfl (fb 0 U48 rfl rfl rfl rfl Z5 fin1) (dt rfl (ld G5 rfl rfl ((sS 1 rfl hq125).take 1) rfl fin1) (dt rfl (m1 rfl fin1) (dt rfl (m1 rfl fin1) (dt rfl (iaP U27 Z48 rfl rfl rfl rfl (lt_of hx120) fin1) (dt rfl (fb 1 U48 rfl rfl rfl rfl Z3 fin1) (dt rfl (ld G3 rfl rfl (((sS 1 rfl hq125).drop 1).take 1) rfl fin1) ?_)))))))))))
    refine dt rfl (m1 rfl fin1) (dt rfl (m1 rfl fin1) (dt rfl (iaP U27 Z48 rfl rfl rfl rfl (lt_of hx120) fin1) (dt rfl (fb 2 U48 rfl rfl rfl rfl Z3 fin1) (dt rfl (ld G3 rfl rfl ((sS 1 rfl hq125).drop 2) rfl fin1) (dt rfl (bu (cs := [.int .u8 x119.kind, .int .i64 x119.old_, .int .i64 x119.new_]) T4.B109 rfl rfl rfl fin1) ?_)))))
    refine DF.und (α := Option Addr × Nat) (none, 0) (fun q => .slice q.1 1 q.2) (fun (q : Option Addr × Nat) K => Sl (Flat encSwap) 3 K q.1 q.2 ([x119] : List Swap)) (fun _ _ _ h x => x.mono (Flat.mono _) h) (by kernel_rfl) rfl (fun a w K hS hA hF => TG.pa hS hA (bS (cs := [.int .u8 x119.kind, .int .i64 x119.old_, .int .i64 x119.new_]) T4.E38 rfl rfl rfl rfl fun q127 K128 hq129 hK130 => by
      have hl131 : Sl (Flat encSwap) 3 K128 (some q127) 1 ([x119] : List Swap) := Sl.litR (css := [[.int .u8 x119.kind, .int .i64 x119.old_, .int .i64 x119.new_]]) (l := ([x119] : List Swap)) ⟨⟨rfl, rfl, rfl⟩, tv⟩ hq129 hK130 rfl
      have := hl131.len
      exact finU (f := fun q => .slice q.1 1 q.2) (G := (fun (q : Option Addr × Nat) K => Sl (Flat encSwap) 3 K q.1 q.2 ([x119] : List Swap))) (_, _) (fun _ _ _ h x => x.mono (Flat.mono _) h) hl131)) ?_
    rintro ⟨ad133, cap134⟩
    refine DF.nil fun K135 hF => ?_
    obtain ⟨hu132, _⟩ := hF
    have := hu132.len
    obtain ⟨hk136, hr137⟩ := chk_some hr121
    have := lenA s87.2 ([x119] : List Swap)
    refine apS 2 (enc := encSwap) (l := s87.2) (m := ([x119] : List Swap)) T4.E38 rfl rfl rfl rfl rfl rfl hu132 0 rfl (fun _ => rfl) (fun _ => rfl) rfl hk136 fun ad138 cap139 => (a1 rfl (on (rg (m1 rfl (adI rfl rfl rfl (by omega) (a1 rfl (on ?_)))))))
    cases hr137
    intro a w hS hA
    exact ⟨_, hz91, ad138, cap139, hS.selH [1] rfl, hA.cut ⟨rfl, rfl, rfl, tv⟩⟩
   ·have hr140 := if_n hc96 hr90
    refine xt rfl ?_
    cases hr140
    obtain rfl := Fin.out hz91
    intro a w hS hA
    exact ⟨ad88, cap89, hS, hA.cut ⟨rfl, tv⟩⟩
 ·rintro a w ⟨ad85, cap86, hS, hA⟩
  refine TG.ap ?_ hS hA
  refine sq (rg (m1 rfl (a1 rfl (on (rt_ ?_)))))
  cases hr84
  intro a w hS hA
  refine ret1 hA rfl rfl ?_
  exact ⟨⟨_, _, rfl, (hS.listOut 2 rfl (fun _ => rfl))⟩, hS.ext⟩

theorem w28 {M : Prop} {W : World} (n_0 : Int) (low : Int) (high : Int) {r : Bool} (hr : m28 n_0 low high = some r) : Calls Tryz.prog 28 [.int .i64 n_0, .int .i64 low, .int .i64 high].toArray W (RetS M W (.bool r)) := by
 unfold m28 at hr
 refine enterG (M := M) Tryz.func28 rfl Tryz.ntmps28 rfl (Hp.le.refl _) ?_
 refine sq (rg (a1 rfl (on (sq ?_))))
 obtain ⟨t4, hx5, hr6⟩ := bd_some hr
 refine jn (fun a w => St M W (hp W) [(hp W)] [] w ∧ Has [] 15 a [(6, .bool t4)]) ?_ ?_
 ·refine rg (m1 rfl (m1 rfl (geI rfl rfl rfl (m1 rfl ?_))))
  by_cases hb7 : low ≤ n_0
  ·have hr8 := if_p hb7 hx5
   refine gt hb7 rfl (m1 rfl (gt hb7 rfl (m1 rfl (gt hb7 rfl (leI rfl rfl rfl (pt hb7 rfl rfl (a1 rfl (on ?_))))))))
   cases hr8
   exact cu ⟨rfl, tv⟩
  ·have hr9 := if_n hb7 hx5
   refine gf hb7 rfl (gf hb7 rfl (gf hb7 rfl (pf hb7 rfl rfl (a1 rfl (on ?_)))))
   cases hr9
   exact cu ⟨rfl, tv⟩
 ·rintro a w ⟨hS, hA⟩
  refine TG.ap ?_ hS hA
  refine rt_ ?_
  cases hr6
  intro a w hS hA
  refine ret1 hA rfl rfl ?_
  exact ⟨rfl, hS.ext⟩

theorem w60 {M : Prop} {W : World} (s_0 : Bytes) {r : Bool} (hr : m60 s_0 = some r) : Calls Tryz.prog 60 [.string (bs s_0)].toArray W (RetS M W (.bool r)) := by
 unfold m60 at hr
 refine enterG (M := M) Tryz.func60 rfl Tryz.ntmps60 rfl (Hp.le.refl _) ?_
 refine sq (rg (a1 rfl (on (sq (sq (rg (a1 rfl (on ?_))))))))
 obtain ⟨e17, hl18, hr19⟩ := bd_some hr
 refine jn (fun a w => ∃ t20, e17 = .inl t20 ∧ St M W (hp W) [(hp W)] [] w ∧ Has [] 23 a [(0, .string (bs s_0))]) ?_ ?_
 ·refine bk ?_
  refine lp hl18 (fun s21 a w => St M W (hp W) [(hp W)] [] w ∧ Has [] 23 a [(0, .string (bs s_0)), (3, .int .i64 (s21 : Int))]) ?_ ?_
  ·exact cu ⟨rfl, rfl, tv⟩
  ·rintro j s21 y24 hr22 hz23 a w ⟨hS, hA⟩
   refine TG.ap ?_ hS hA
   unfold m60_1 at hr22
   refine sq (sq (rg (m1 rfl (m1 rfl (lnS U9 rfl rfl (ltI rfl rfl rfl (on ?_)))))))
   refine ci rfl (fun hc28 => ?_) (fun hc28 => ?_)
   ·have hr29 := if_p hc28 hr22
    refine sk (sq (bk (sq ?_)))
    obtain ⟨t46, hx47, hr48⟩ := bd_some hr29
    refine jn (fun a w => St M W (hp W) [(hp W)] [] w ∧ Has [] 23 a [(0, .string (bs s_0)), (3, .int .i64 (s21 : Int)), (19, .bool t46)]) ?_ ?_
    ·refine rg (m1 rfl (m1 rfl ?_))
     obtain ⟨x49, hx50, hr51⟩ := bd_some hx47
     have := UInt8.toNat_lt x49
     refine ixS U9 rfl rfl rfl rfl hx50 (ltI rfl rfl rfl (m1 rfl ?_))
     by_cases hb52 : (x49.toNat : Int) < 33
     ·have hr53 := if_p hb52 hr51
      refine gf' hb52 rfl (gf' hb52 rfl (gf' hb52 rfl (gf' hb52 rfl (pt hb52 rfl rfl (on ?_)))))
      cases hr53
      exact cu ⟨rfl, rfl, rfl, tv⟩
     ·have hr54 := if_n hb52 hr51
      refine gt' hb52 rfl (m1 rfl (gt' hb52 rfl (m1 rfl (gt' hb52 rfl (ixS U9 rfl rfl rfl rfl hx50 (gt' hb52 rfl (gtI rfl rfl rfl (pf hb52 rfl rfl (on ?_)))))))))
      cases hr54
      exact cu ⟨rfl, rfl, rfl, tv⟩
    ·rintro a w ⟨hS, hA⟩
     refine TG.ap ?_ hS hA
     refine cb rfl (fun hc58 => ?_) (fun hc58 => ?_)
     ·have hr59 := if_p hc58 hr48
      refine sq (rg (a1 rfl (on (rt_ ?_))))
      cases hr59
      obtain rfl := Fin.out hz23
      cases hr19
      intro a w hS hA
      refine ret1 hA rfl rfl ?_
      exact ⟨rfl, hS.ext⟩
     ·have hr60 := if_f hc58 hr48
      refine sk (rg (m1 rfl ?_))
      obtain ⟨hk61, hr62⟩ := chk_some hr60
      refine adI rfl rfl rfl hk61 (a1 rfl (on ?_))
      cases hr62
      intro a w hS hA
      exact ⟨_, hz23, hS, hA.cut ⟨rfl, rfl, tv⟩⟩
   ·have hr63 := if_n hc28 hr22
    refine xt rfl ?_
    cases hr63
    obtain rfl := Fin.out hz23
    intro a w hS hA
    exact ⟨_, rfl, hS, hA.cut ⟨rfl, tv⟩⟩
 ·rintro a w ⟨t20, rfl, hS, hA⟩
  refine TG.ap ?_ hS hA
  refine sq (rg (m1 rfl (lnS U9 rfl rfl ?_)))
  obtain ⟨r64, hx65, hr66⟩ := bd_some hr19
  refine clS C28 rfl rfl rfl rfl (fun w H hH le => w28 (s_0.length : Int) 1 32 hx65) (a1 rfl (on (rt_ ?_)))
  cases hr66
  intro a w hS hA
  refine ret1 hA rfl rfl ?_
  exact ⟨rfl, hS.ext⟩

theorem w55 {M : Prop} {W : World} {H : Hp} (hH : H.le (hp W)) {ad_l_0 : Option Addr} {cap_l_0 : Nat} {l_0 : List Bytes} (h_l_0 : Sl (Flat encS) 1 H ad_l_0 cap_l_0 l_0) (most : Int) {r : Bool} (hr : m55 l_0 most = some r) : Calls Tryz.prog 55 [.slice ad_l_0 l_0.length cap_l_0, .int .i64 most].toArray W (RetS M W (.bool r)) := by
 have := h_l_0.len
 unfold m55 at hr
 refine enterG (M := M) Tryz.func55 rfl Tryz.ntmps55 rfl hH ?_
 refine sq (rg (a1 rfl (on (sq (sq (rg (a1 rfl (on ?_))))))))
 obtain ⟨e19, hl20, hr21⟩ := bd_some hr
 refine jn (fun a w => ∃ t22, e19 = .inl t22 ∧ St M W H [H] [] w ∧ Has [] 22 a [(0, .slice ad_l_0 l_0.length cap_l_0), (1, .int .i64 most)]) ?_ ?_
 ·refine bk ?_
  refine lp hl20 (fun s23 a w => St M W H [H] [] w ∧ Has [] 22 a [(0, .slice ad_l_0 l_0.length cap_l_0), (1, .int .i64 most), (5, .int .i64 (s23 : Int))]) ?_ ?_
  ·exact cu ⟨rfl, rfl, rfl, tv⟩
  ·rintro j s23 y26 hr24 hz25 a w ⟨hS, hA⟩
   refine TG.ap ?_ hS hA
   unfold m55_1 at hr24
   refine sq (sq (rg (m1 rfl (m1 rfl (lnL U24 rfl rfl (ltI rfl rfl rfl (on ?_)))))))
   refine ci rfl (fun hc30 => ?_) (fun hc30 => ?_)
   ·have hr31 := if_p hc30 hr24
    refine sk (sq (bk (sq (rg (m1 rfl (m1 rfl ?_))))))
    obtain ⟨x46, hx47, hr48⟩ := bd_some hr31
    obtain ⟨p49, rfl⟩ := h_l_0.adr hx47
    obtain ⟨cs50, hcs51, hq52, hr53⟩ := h_l_0.at hx47
    obtain rfl := hr53
    refine iaP U24 Z9 rfl rfl rfl rfl (lt_of hx47) (ld G9 rfl rfl (sS 0 rfl hq52) rfl ?_)
    obtain ⟨r54, hx55, hr56⟩ := bd_some hr48
    refine clS C60 rfl rfl rfl rfl (fun w H hH le => w60 x46 hx55) (nt rfl rfl (on ?_))
    refine cb rfl (fun hc60 => ?_) (fun hc60 => ?_)
    ·replace hc60 := nbt hc60
     have hr61 := if_f hc60 hr56
     refine sq (rg (a1 rfl (on (rt_ ?_))))
     cases hr61
     obtain rfl := Fin.out hz25
     cases hr21
     intro a w hS hA
     refine ret1 hA rfl rfl ?_
     exact ⟨rfl, hS.ext⟩
    ·replace hc60 := nbf hc60
     have hr62 := if_p hc60 hr56
     refine sk (rg (m1 rfl (adI rfl rfl rfl (by omega) (a1 rfl (on ?_)))))
     cases hr62
     intro a w hS hA
     exact ⟨_, hz25, hS, hA.cut ⟨rfl, rfl, rfl, tv⟩⟩
   ·have hr63 := if_n hc30 hr24
    refine xt rfl ?_
    cases hr63
    obtain rfl := Fin.out hz25
    intro a w hS hA
    exact ⟨_, rfl, hS, hA.cut ⟨rfl, rfl, tv⟩⟩
 ·rintro a w ⟨t22, rfl, hS, hA⟩
  refine TG.ap ?_ hS hA
  refine sq (rg (m1 rfl (lnL U24 rfl rfl (m1 rfl (leI rfl rfl rfl (a1 rfl (on (rt_ ?_))))))))
  cases hr21
  intro a w hS hA
  refine ret1 hA rfl rfl ?_
  exact ⟨rfl, hS.ext⟩

theorem w34 {M : Prop} {W : World} {H : Hp} (hH : H.le (hp W)) {cs_l_0 : List Value} (l_0 : Lexicon) (h_l_0 : (RLexicon) H cs_l_0 l_0) {r : Int} (hr : m34 l_0 = some r) : Calls Tryz.prog 34 [.agg cs_l_0.toArray].toArray W (RetS M W (.int .i64 r)) := by
 have hh_l_0 := h_l_0
 obtain ⟨ad1, cap2, ad4, cap5, ad7, cap8, rfl, hl3, hl6, hl9⟩ := h_l_0
 have := hl3.len
 have := hl6.len
 have := hl9.len
 unfold m34 at hr
 refine enterG (M := M) Tryz.func34 rfl Tryz.ntmps34 rfl hH ?_
 refine sq (rg (bI (cs := [.slice ad1 l_0.numbers.length cap2, .slice ad4 l_0.names.length cap5, .slice ad7 l_0.nots.length cap8]) rfl rfl rfl fun q10 K11 hK12 => (a1 rfl (on (sq (rg (a1 rfl (on (sq (sq (rg ?_)))))))))))
 refine a1 rfl (on (TG.nilRow 2 9 1 (TG.as 2 (z := Own.list none 0 9 1 encS ([] : List Bytes)) rfl rfl ?_)))
 obtain ⟨e133, hl134, hr135⟩ := bd_some hr
 refine jn (fun a w => ∃ t136, e133 = .inl t136 ∧ ∃ (ad137 : Option Addr) (cap138 : Nat), St M W H [K11, H] [(2, Own.list ad137 cap138 9 1 encS t136)] w ∧ Has [] 112 a [(1, .pointer (some q10)), (3, .slice ad137 t136.length cap138)]) ?_ ?_
 ·refine bk ?_
  refine lp hl134 (fun s139 a w => ∃ (ad140 : Option Addr) (cap141 : Nat), St M W H [K11, H] [(2, Own.list ad140 cap141 9 1 encS s139.2)] w ∧ Has [] 112 a [(1, .pointer (some q10)), (3, .slice ad140 s139.2.length cap141), (4, .int .i64 (s139.1 : Int))]) ?_ ?_
  ·intro a w hS hA
   exact ⟨none, 0, hS, hA.cut ⟨rfl, rfl, rfl, tv⟩⟩
  ·rintro j s139 y144 hr142 hz143 a w ⟨ad140, cap141, hS, hA⟩
   refine TG.ap ?_ hS hA
   unfold m34_1 at hr142
   refine sq (sq (rg (m1 rfl (fb 0 U26 rfl rfl rfl rfl Z22 (ld G22 rfl rfl ((sS 0 rfl hK12).take 1) rfl (lnL U22 rfl rfl (ltI rfl rfl rfl (on ?_))))))))
   refine ci rfl (fun hc148 => ?_) (fun hc148 => ?_)
   ·have hr149 := if_p hc148 hr142
    refine sk (sq (bk (sq (sq ?_))))
    obtain ⟨t201, hx202, hr203⟩ := bd_some hr149
    refine jn (fun a w => St M W H [K11, H] [(2, Own.list ad140 cap141 9 1 encS s139.2)] w ∧ Has [] 112 a [(1, .pointer (some q10)), (3, .slice ad140 s139.2.length cap141), (4, .int .i64 (s139.1 : Int)), (32, .bool t201)]) ?_ ?_
    ·refine rg (fb 0 U26 rfl rfl rfl rfl Z22 (ld G22 rfl rfl ((sS 0 rfl hK12).take 1) rfl (m1 rfl ?_)))
     obtain ⟨x204, hx205, hr206⟩ := bd_some hx202
     obtain ⟨p207, rfl⟩ := hl3.adr hx205
     obtain ⟨cs208, hcs209, hq210, hr211⟩ := hl3.at hx205
     obtain rfl := hr211
     refine iaP U22 Z112 rfl rfl rfl rfl (lt_of hx205) (fb 0 U112 rfl rfl rfl rfl Z9 (ld G9 rfl rfl ((sS 1 rfl hq210).take 1) rfl ?_))
     obtain ⟨r212, hx213, hr214⟩ := bd_some hr206
     refine clS C60 rfl rfl rfl rfl (fun w H hH le => w60 x204.text hx213) (nt rfl rfl (m1 rfl ?_))
     rcases Bool.eq_false_or_eq_true (r212) with hb215 | hb215
     ·have hr216 := if_p hb215 hr214
      refine gN rfl rfl (congrArg not (hb215)) (fb 0 U26 rfl rfl rfl rfl Z22 (gN rfl rfl (congrArg not (hb215)) (ld G22 rfl rfl ((sS 0 rfl hK12).take 1) rfl (gN rfl rfl (congrArg not (hb215)) (m1 rfl (gN rfl rfl (congrArg not (hb215)) (iaP U22 Z112 rfl rfl rfl rfl (lt_of hx205) (gN rfl rfl (congrArg not (hb215)) (fb 1 U112 rfl rfl rfl rfl Z3 (gN rfl rfl (congrArg not (hb215)) (ld G3 rfl rfl ((sS 1 rfl hq210).drop 1) rfl ?_)))))))))))
      refine gN rfl rfl (congrArg not (hb215)) ?_
      obtain ⟨r217, hx218, hr219⟩ := bd_some hr216
      refine clS C28 rfl rfl rfl rfl (fun w H hH le => w28 x204.value 0 999999999 hx218) (gN rfl rfl (congrArg not (hb215)) (nt rfl rfl (pF rfl rfl (congrArg not (hb215)) rfl (on ?_))))
      cases hr219
      exact cu ⟨rfl, rfl, rfl, rfl, tv⟩
     ·have hr220 := if_f hb215 hr214
      refine gF rfl rfl (congrArg not (hb215)) rfl (gF rfl rfl (congrArg not (hb215)) rfl (gF rfl rfl (congrArg not (hb215)) rfl (gF rfl rfl (congrArg not (hb215)) rfl (gF rfl rfl (congrArg not (hb215)) rfl (gF rfl rfl (congrArg not (hb215)) rfl (gF rfl rfl (congrArg not (hb215)) rfl (gF rfl rfl (congrArg not (hb215)) rfl (pT rfl rfl (congrArg not (hb215)) rfl (on ?_)))))))))
      cases hr220
      exact cu ⟨rfl, rfl, rfl, rfl, tv⟩
    ·rintro a w ⟨hS, hA⟩
     refine TG.ap ?_ hS hA
     refine cb rfl (fun hc224 => ?_) (fun hc224 => ?_)
     ·have hr225 := if_p hc224 hr203
      refine sq (rg (a1 rfl (on (rt_ ?_))))
      cases hr225
      obtain rfl := Fin.out hz143
      cases hr135
      intro a w hS hA
      refine ret1 hA rfl rfl ?_
      exact ⟨rfl, hS.ext⟩
     ·have hr226 := if_f hc224 hr203
      refine sk (rg (m1 rfl (fb 0 U26 rfl rfl rfl rfl Z22 (ld G22 rfl rfl ((sS 0 rfl hK12).take 1) rfl (m1 rfl ?_)))))
      obtain ⟨x227, hx228, hr229⟩ := bd_some hr226
      obtain ⟨p230, rfl⟩ := hl3.adr hx228
      obtain ⟨cs231, hcs232, hq233, hr234⟩ := hl3.at hx228
      obtain rfl := hr234
      refine iaP U22 Z112 rfl rfl rfl rfl (lt_of hx228) (fb 0 U112 rfl rfl rfl rfl Z9 (ld G9 rfl rfl ((sS 1 rfl hq233).take 1) rfl ?_))
      obtain ⟨hk235, hr236⟩ := chk_some hr229
      have := lenA s139.2 [x227.text]
      refine ap1 2 encS (l := s139.2) x227.text T4.E24 rfl rfl rfl rfl rfl rfl rfl rfl rfl rfl rfl rfl hk235 fun ad237 cap238 u239 => (a1 rfl (on (rg (m1 rfl (adI rfl rfl rfl (by omega) (a1 rfl (on ?_)))))))
      cases hr236
      intro a w hS hA
      exact ⟨_, hz143, ad237, cap238, hS, hA.cut ⟨rfl, rfl, rfl, tv⟩⟩
   ·have hr240 := if_n hc148 hr142
    refine xt rfl ?_
    cases hr240
    obtain rfl := Fin.out hz143
    intro a w hS hA
    exact ⟨_, rfl, ad140, cap141, hS, hA.cut ⟨rfl, rfl, tv⟩⟩
 ·rintro a w ⟨t136, rfl, ad137, cap138, hS, hA⟩
  refine TG.ap ?_ hS hA
  refine sq (sq (rg (a1 rfl (on ?_))))
  obtain ⟨e372, hl373, hr374⟩ := bd_some hr135
  refine jn (fun a w => ∃ t375, e372 = .inl t375 ∧ ∃ (ad376 : Option Addr) (cap377 : Nat), St M W H [K11, H] [(2, Own.list ad376 cap377 9 1 encS t375)] w ∧ Has [] 112 a [(1, .pointer (some q10)), (3, .slice ad376 t375.length cap377)]) ?_ ?_
  ·refine bk ?_
   refine lp hl373 (fun s378 a w => ∃ (ad379 : Option Addr) (cap380 : Nat), St M W H [K11, H] [(2, Own.list ad379 cap380 9 1 encS s378.2)] w ∧ Has [] 112 a [(1, .pointer (some q10)), (3, .slice ad379 s378.2.length cap380), (5, .int .i64 (s378.1 : Int))]) ?_ ?_
   ·intro a w hS hA
    exact ⟨ad137, cap138, hS, hA.cut ⟨rfl, rfl, rfl, tv⟩⟩
   ·rintro j s378 y383 hr381 hz382 a w ⟨ad379, cap380, hS, hA⟩
    refine TG.ap ?_ hS hA
    unfold m34_2 at hr381
    refine sq (sq (rg (m1 rfl (fb 1 U26 rfl rfl rfl rfl Z23 (ld G23 rfl rfl (((sS 0 rfl hK12).drop 1).take 1) rfl (lnL U23 rfl rfl (ltI rfl rfl rfl (on ?_))))))))
    refine ci rfl (fun hc387 => ?_) (fun hc387 => ?_)
    ·have hr388 := if_p hc387 hr381
     refine sk (sq (bk (sq (sq ?_))))
     obtain ⟨t445, hx446, hr447⟩ := bd_some hr388
     refine jn (fun a w => St M W H [K11, H] [(2, Own.list ad379 cap380 9 1 encS s378.2)] w ∧ Has [] 112 a [(1, .pointer (some q10)), (3, .slice ad379 s378.2.length cap380), (5, .int .i64 (s378.1 : Int)), (64, .bool t445)]) ?_ ?_
     ·refine rg (fb 1 U26 rfl rfl rfl rfl Z23 (ld G23 rfl rfl (((sS 0 rfl hK12).drop 1).take 1) rfl (m1 rfl ?_)))
      obtain ⟨x448, hx449, hr450⟩ := bd_some hx446
      obtain ⟨p451, rfl⟩ := hl6.adr hx449
      obtain ⟨cs452, hcs453, hq454, hr455⟩ := hl6.at hx449
      have hr456 := hr455
      obtain ⟨ad457, cap458, rfl, hl459⟩ := hr455
      have := hl459.len
      refine iaP U23 Z24 rfl rfl rfl rfl (lt_of hx449) (ld G24 rfl rfl (sS 1 rfl hq454) rfl (lnL U24 rfl rfl (eqI rfl rfl rfl (m1 rfl ?_))))
      by_cases hb460 : (x448.length : Int) = 0
      ·have hr461 := if_p hb460 hr450
       refine gf' hb460 rfl (gf' hb460 rfl (gf' hb460 rfl (gf' hb460 rfl (gf' hb460 rfl (gf' hb460 rfl (gf' hb460 rfl (pt hb460 rfl rfl (on ?_))))))))
       cases hr461
       exact cu ⟨rfl, rfl, rfl, rfl, tv⟩
      ·have hr462 := if_n hb460 hr450
       refine gt' hb460 rfl (fb 1 U26 rfl rfl rfl rfl Z23 (gt' hb460 rfl (ld G23 rfl rfl (((sS 0 rfl hK12).drop 1).take 1) rfl (gt' hb460 rfl (m1 rfl (gt' hb460 rfl (iaP U23 Z24 rfl rfl rfl rfl (lt_of hx449) (gt' hb460 rfl (ld G24 rfl rfl (sS 1 rfl hq454) rfl (gt' hb460 rfl ?_))))))))))
       obtain ⟨r463, hx464, hr465⟩ := bd_some hr462
       refine clS C55 rfl rfl rfl rfl (fun w H hH le => w55 hH (hl459.mono (Flat.mono _) (le.at 1 rfl)) 5 hx464) (gt' hb460 rfl (nt rfl rfl (pf hb460 rfl rfl (on ?_))))
       cases hr465
       exact cu ⟨rfl, rfl, rfl, rfl, tv⟩
     ·rintro a w ⟨hS, hA⟩
      refine TG.ap ?_ hS hA
      refine cb rfl (fun hc469 => ?_) (fun hc469 => ?_)
      ·have hr470 := if_p hc469 hr447
       refine sq (rg (a1 rfl (on (rt_ ?_))))
       cases hr470
       obtain rfl := Fin.out hz382
       cases hr374
       intro a w hS hA
       refine ret1 hA rfl rfl ?_
       exact ⟨rfl, hS.ext⟩
      ·have hr471 := if_f hc469 hr447
       refine sk (rg (m1 rfl (fb 1 U26 rfl rfl rfl rfl Z23 (ld G23 rfl rfl (((sS 0 rfl hK12).drop 1).take 1) rfl (m1 rfl ?_)))))
       obtain ⟨x472, hx473, hr474⟩ := bd_some hr471
       obtain ⟨p475, rfl⟩ := hl6.adr hx473
       obtain ⟨cs476, hcs477, hq478, hr479⟩ := hl6.at hx473
       have hr480 := hr479
       obtain ⟨ad481, cap482, rfl, hl483⟩ := hr479
       have := hl483.len
       refine iaP U23 Z24 rfl rfl rfl rfl (lt_of hx473) (ld G24 rfl rfl (sS 1 rfl hq478) rfl ?_)
       obtain ⟨hk484, hr485⟩ := chk_some hr474
       have := lenA s378.2 x472
       refine apS 2 (enc := encS) (l := s378.2) (m := x472) T4.E24 rfl rfl rfl rfl rfl rfl hl483 1 rfl (fun _ => rfl) (fun _ => rfl) rfl hk484 fun ad486 cap487 => (a1 rfl (on (rg (m1 rfl (adI rfl rfl rfl (by omega) (a1 rfl (on ?_)))))))
       cases hr485
       intro a w hS hA
       exact ⟨_, hz382, ad486, cap487, hS, hA.cut ⟨rfl, rfl, rfl, tv⟩⟩
    ·have hr488 := if_n hc387 hr381
     refine xt rfl ?_
     cases hr488
     obtain rfl := Fin.out hz382
     intro a w hS hA
     exact ⟨_, rfl, ad379, cap380, hS, hA.cut ⟨rfl, rfl, tv⟩⟩
  ·rintro a w ⟨t375, rfl, ad376, cap377, hS, hA⟩
   refine TG.ap ?_ hS hA
   refine sq (sq ?_)
   obtain ⟨t498, hx499, hr500⟩ := bd_some hr374
   refine jn (fun a w => St M W H [K11, H] [(2, Own.list ad376 cap377 9 1 encS t375)] w ∧ Has [] 112 a [(1, .pointer (some q10)), (3, .slice ad376 t375.length cap377), (87, .bool t498)]) ?_ ?_
   ·refine rg (fb 2 U26 rfl rfl rfl rfl Z24 (ld G24 rfl rfl ((sS 0 rfl hK12).drop 2) rfl ?_))
    obtain ⟨r501, hx502, hr503⟩ := bd_some hx499
    refine clS C55 rfl rfl rfl rfl (fun w H hH le => w55 hH (hl9.mono (Flat.mono _) (le.at 1 rfl)) 40 hx502) (nt rfl rfl (m1 rfl ?_))
    rcases Bool.eq_false_or_eq_true (r501) with hb504 | hb504
    ·have hr505 := if_p hb504 hr503
     refine gN rfl rfl (congrArg not (hb504)) (fb 0 U26 rfl rfl rfl rfl Z22 (gN rfl rfl (congrArg not (hb504)) (ld G22 rfl rfl ((sS 0 rfl hK12).take 1) rfl (gN rfl rfl (congrArg not (hb504)) (lnL U22 rfl rfl (gN rfl rfl (congrArg not (hb504)) (gtI rfl rfl rfl (pF rfl rfl (congrArg not (hb504)) rfl (m1 rfl ?_)))))))))
     by_cases hb506 : 40 < (l_0.numbers.length : Int)
     ·have hr507 := if_p hb506 hr505
      refine gf' hb506 rfl (gf' hb506 rfl (gf' hb506 rfl (gf' hb506 rfl (pt hb506 rfl rfl (on ?_)))))
      cases hr507
      exact cu ⟨rfl, rfl, rfl, tv⟩
     ·have hr508 := if_n hb506 hr505
      refine gt' hb506 rfl (fb 1 U26 rfl rfl rfl rfl Z23 (gt' hb506 rfl (ld G23 rfl rfl (((sS 0 rfl hK12).drop 1).take 1) rfl (gt' hb506 rfl (lnL U23 rfl rfl (gt' hb506 rfl (gtI rfl rfl rfl (pf hb506 rfl rfl (on ?_)))))))))
      cases hr508
      exact cu ⟨rfl, rfl, rfl, tv⟩
    ·have hr509 := if_f hb504 hr503
     refine gF rfl rfl (congrArg not (hb504)) rfl (gF rfl rfl (congrArg not (hb504)) rfl (gF rfl rfl (congrArg not (hb504)) rfl (gF rfl rfl (congrArg not (hb504)) rfl (pT rfl rfl (congrArg not (hb504)) rfl (m1 rfl (gF rfl rfl rfl rfl (gF rfl rfl rfl rfl (gF rfl rfl rfl rfl (gF rfl rfl rfl rfl (pT rfl rfl rfl rfl (on ?_)))))))))))
     cases hr509
     exact cu ⟨rfl, rfl, rfl, tv⟩
   ·rintro a w ⟨hS, hA⟩
    refine TG.ap ?_ hS hA
    refine cb rfl (fun hc513 => ?_) (fun hc513 => ?_)
    ·have hr514 := if_p hc513 hr500
     refine sq (rg (a1 rfl (on (rt_ ?_))))
     cases hr514
     intro a w hS hA
     refine ret1 hA rfl rfl ?_
     exact ⟨rfl, hS.ext⟩
    ·have hr515 := if_f hc513 hr500
     refine sk (sq (rg (m1 rfl (fb 2 U26 rfl rfl rfl rfl Z24 (ld G24 rfl rfl ((sS 0 rfl hK12).drop 2) rfl ?_)))))
     obtain ⟨hk516, hr517⟩ := chk_some hr515
     have := lenA t375 l_0.nots
     refine apS 2 (enc := encS) (l := t375) (m := l_0.nots) T4.E24 rfl rfl rfl rfl rfl rfl hl9 1 rfl (fun _ => rfl) (fun _ => rfl) rfl hk516 fun ad518 cap519 => (a1 rfl (on (sq (sq (rg (a1 rfl (on ?_)))))))
     obtain ⟨e542, hl543, hr544⟩ := bd_some hr517
     refine jn (fun a w => ∃ t545, e542 = .inl t545 ∧ St M W H [K11, H] [(2, Own.list ad518 cap519 9 1 encS (t375 ++ l_0.nots))] w ∧ Has [] 112 a []) ?_ ?_
     ·refine bk ?_
      refine lp hl543 (fun s546 a w => St M W H [K11, H] [(2, Own.list ad518 cap519 9 1 encS (t375 ++ l_0.nots))] w ∧ Has [] 112 a [(3, .slice ad518 ((t375 ++ l_0.nots).length) cap519), (6, .int .i64 (s546 : Int))]) ?_ ?_
      ·exact cu ⟨rfl, rfl, tv⟩
      ·rintro j s546 y549 hr547 hz548 a w ⟨hS, hA⟩
       refine TG.ap ?_ hS hA
       unfold m34_3 at hr547
       refine sq (sq (rg (m1 rfl (m1 rfl (lnL U24 rfl rfl (ltI rfl rfl rfl (on ?_)))))))
       refine ci rfl (fun hc553 => ?_) (fun hc553 => ?_)
       ·have hr554 := if_p hc553 hr547
        refine sk (sq (bk (sq (rg (a1 rfl (on ?_))))))
        obtain ⟨e590, hl591, hr592⟩ := bd_some hr554
        refine jn (fun a w => ∃ t593, e590 = .inl t593 ∧ St M W H [K11, H] [(2, Own.list ad518 cap519 9 1 encS (t375 ++ l_0.nots))] w ∧ Has [] 112 a [(3, .slice ad518 ((t375 ++ l_0.nots).length) cap519), (6, .int .i64 (s546 : Int))]) ?_ ?_
        ·refine bk ?_
         refine lp hl591 (fun s594 a w => St M W H [K11, H] [(2, Own.list ad518 cap519 9 1 encS (t375 ++ l_0.nots))] w ∧ Has [] 112 a [(3, .slice ad518 ((t375 ++ l_0.nots).length) cap519), (6, .int .i64 (s546 : Int)), (7, .int .i64 (s594 : Int))]) ?_ ?_
         ·exact cu ⟨rfl, rfl, rfl, tv⟩
         ·rintro j s594 y597 hr595 hz596 a w ⟨hS, hA⟩
          refine TG.ap ?_ hS hA
          unfold m34_4 at hr595
          refine sq (sq (rg (m1 rfl (m1 rfl (ltI rfl rfl rfl (on ?_))))))
          refine ci rfl (fun hc601 => ?_) (fun hc601 => ?_)
          ·have hr602 := if_p hc601 hr595
           refine sk (sq (bk (sq ?_)))
           obtain ⟨x614, hx615, hr616⟩ := bd_some hr602
           refine TG.addr 2 rfl (lt_of0 hx615) fun b617 h => ?_; subst h
           obtain ⟨x618, hx619, hr620⟩ := bd_some hr616
           refine drG 8 mixed (by kernel_rfl) rfl (dt rfl (m1 rfl fin1) (dt rfl (m1 rfl fin1) (dt rfl (iaP U24 Z9 rfl rfl rfl rfl (lt_of hx615) fin1) (dt rfl (ld G9 rfl rfl (sE 2 rfl (fun _ => rfl) hx615) rfl fin1) (dt rfl (m1 rfl fin1) (dt rfl (m1 rfl fin1) (dt rfl (iaP U24 Z9 rfl rfl rfl rfl (lt_of hx619) fin1) (dt rfl (ld G9 rfl rfl (sE 2 rfl (fun _ => rfl) hx619) rfl fin1) (DF.nil fun K621 hF => (eqS rfl rfl rfl (on ?_)))))))))))
           refine ci rfl (fun hc625 => ?_) (fun hc625 => ?_)
           ·have hr626 := if_p hc625 hr620
            refine sq (rg (a1 rfl (on (rt_ ?_))))
            cases hr626
            obtain rfl := Fin.out hz596
            cases hr592
            obtain rfl := Fin.out hz548
            cases hr544
            intro a w hS hA
            refine ret1 hA rfl rfl ?_
            exact ⟨rfl, hS.ext⟩
           ·have hr627 := if_n hc625 hr620
            refine sk (rg (m1 rfl ?_))
            obtain ⟨hk628, hr629⟩ := chk_some hr627
            refine adI rfl rfl rfl hk628 (a1 rfl (on ?_))
            cases hr629
            intro a w hS hA
            exact ⟨_, hz596, hS.selH [1, 2] rfl, hA.cut ⟨rfl, rfl, rfl, tv⟩⟩
          ·have hr630 := if_n hc601 hr595
           refine xt rfl ?_
           cases hr630
           obtain rfl := Fin.out hz596
           intro a w hS hA
           exact ⟨_, rfl, hS, hA.cut ⟨rfl, rfl, tv⟩⟩
        ·rintro a w ⟨t593, rfl, hS, hA⟩
         refine TG.ap ?_ hS hA
         refine rg (m1 rfl (adI rfl rfl rfl (by omega) (a1 rfl (on ?_))))
         cases hr592
         intro a w hS hA
         exact ⟨_, hz548, hS, hA.cut ⟨rfl, rfl, tv⟩⟩
       ·have hr631 := if_n hc553 hr547
        refine xt rfl ?_
        cases hr631
        obtain rfl := Fin.out hz548
        intro a w hS hA
        exact ⟨_, rfl, hS, hA.cut tv⟩
     ·rintro a w ⟨t545, rfl, hS, hA⟩
      refine TG.ap ?_ hS hA
      refine sq (rg (a1 rfl (on (rt_ ?_))))
      cases hr544
      intro a w hS hA
      refine ret1 hA rfl rfl ?_
      exact ⟨rfl, hS.ext⟩

theorem w27 {M : Prop} {W : World} {H : Hp} (hH : H.le (hp W)) {ad_l_0 : Option Addr} {cap_l_0 : Nat} {l_0 : List Swap} (h_l_0 : Sl (Flat encSwap) 3 H ad_l_0 cap_l_0 l_0) {r : Int} (hr : m27 l_0 = some r) : Calls Tryz.prog 27 [.slice ad_l_0 l_0.length cap_l_0].toArray W (RetS M W (.int .i64 r)) := by
 have := h_l_0.len
 unfold m27 at hr
 refine enterG (M := M) Tryz.func27 rfl Tryz.ntmps27 rfl hH ?_
 refine sq (rg (a1 rfl (on (sq (sq (rg (m1 rfl (lnL U27 rfl rfl (gtI rfl rfl rfl (on ?_))))))))))
 refine ci rfl (fun hc4 => ?_) (fun hc4 => ?_)
 ·have hr5 := if_p hc4 hr
  refine sq (rg (a1 rfl (on (rt_ ?_))))
  cases hr5
  intro a w hS hA
  refine ret1 hA rfl rfl ?_
  exact ⟨rfl, hS.ext⟩
 ·have hr6 := if_n hc4 hr
  refine sk (sq (sq (rg (a1 rfl (on ?_)))))
  obtain ⟨e47, hl48, hr49⟩ := bd_some hr6
  refine jn (fun a w => ∃ t50, e47 = .inl t50 ∧ St M W H [H] [] w ∧ Has [] 45 a []) ?_ ?_
  ·refine bk ?_
   refine lp hl48 (fun s51 a w => St M W H [H] [] w ∧ Has [] 45 a [(0, .slice ad_l_0 l_0.length cap_l_0), (3, .int .i64 (s51 : Int))]) ?_ ?_
   ·exact cu ⟨rfl, rfl, tv⟩
   ·rintro j s51 y54 hr52 hz53 a w ⟨hS, hA⟩
    refine TG.ap ?_ hS hA
    unfold m27_1 at hr52
    refine sq (sq (rg (m1 rfl (m1 rfl (lnL U27 rfl rfl (ltI rfl rfl rfl (on ?_)))))))
    refine ci rfl (fun hc58 => ?_) (fun hc58 => ?_)
    ·have hr59 := if_p hc58 hr52
     refine sk (sq (bk (sq ?_)))
     obtain ⟨t128, hx129, hr130⟩ := bd_some hr59
     refine jn (fun a w => St M W H [H] [] w ∧ Has [] 45 a [(0, .slice ad_l_0 l_0.length cap_l_0), (3, .int .i64 (s51 : Int)), (44, .bool t128)]) ?_ ?_
     ·refine rg (m1 rfl (m1 rfl ?_))
      obtain ⟨x131, hx132, hr133⟩ := bd_some hx129
      obtain ⟨p134, rfl⟩ := h_l_0.adr hx132
      obtain ⟨cs135, hcs136, hq137, hr138⟩ := h_l_0.at hx132
      obtain rfl := hr138
      refine iaP U27 Z48 rfl rfl rfl rfl (lt_of hx132) (fb 0 U48 rfl rfl rfl rfl Z5 (ld G5 rfl rfl ((sS 0 rfl hq137).take 1) rfl (neI rfl rfl rfl (m1 rfl ?_))))
      by_cases hb139 : x131.kind ≠ 1
      ·have hr140 := if_p hb139 hr133
       refine gt hb139 rfl (m1 rfl (gt hb139 rfl (m1 rfl (gt hb139 rfl (iaP U27 Z48 rfl rfl rfl rfl (lt_of hx132) (gt hb139 rfl (fb 0 U48 rfl rfl rfl rfl Z5 (gt hb139 rfl (ld G5 rfl rfl ((sS 0 rfl hq137).take 1) rfl (gt hb139 rfl (neI rfl rfl rfl ?_)))))))))))
       refine pt hb139 rfl rfl (m1 rfl ?_)
       by_cases hb141 : x131.kind ≠ 2
       ·have hr142 := if_p hb141 hr140
        refine gf' hb141 rfl (gf' hb141 rfl (gf' hb141 rfl (gf' hb141 rfl (gf' hb141 rfl (gf' hb141 rfl (gf' hb141 rfl (pt hb141 rfl rfl (m1 rfl (gF rfl rfl rfl rfl (gF rfl rfl rfl rfl (gF rfl rfl rfl rfl ?_)))))))))))
        refine gF rfl rfl rfl rfl (gF rfl rfl rfl rfl (gF rfl rfl rfl rfl (gF rfl rfl rfl rfl (pT rfl rfl rfl rfl (on ?_)))))
        cases hr142
        exact cu ⟨rfl, rfl, rfl, tv⟩
       ·have hr143 := if_n hb141 hr140
        refine gt' hb141 rfl (m1 rfl (gt' hb141 rfl (m1 rfl (gt' hb141 rfl (iaP U27 Z48 rfl rfl rfl rfl (lt_of hx132) (gt' hb141 rfl (fb 1 U48 rfl rfl rfl rfl Z3 (gt' hb141 rfl (ld G3 rfl rfl (((sS 0 rfl hq137).drop 1).take 1) rfl (gt' hb141 rfl ?_))))))))))
        obtain ⟨r144, hx145, hr146⟩ := bd_some hr143
        refine clS C28 rfl rfl rfl rfl (fun w H hH le => w28 x131.old_ 0 999999999 hx145) (gt' hb141 rfl (nt rfl rfl (pf hb141 rfl rfl (m1 rfl ?_))))
        rcases Bool.eq_false_or_eq_true (r144) with hb147 | hb147
        ·have hr148 := if_p hb147 hr146
         refine gN rfl rfl (congrArg not (hb147)) (m1 rfl (gN rfl rfl (congrArg not (hb147)) (m1 rfl (gN rfl rfl (congrArg not (hb147)) (iaP U27 Z48 rfl rfl rfl rfl (lt_of hx132) (gN rfl rfl (congrArg not (hb147)) (fb 2 U48 rfl rfl rfl rfl Z3 (gN rfl rfl (congrArg not (hb147)) (ld G3 rfl rfl ((sS 0 rfl hq137).drop 2) rfl (gN rfl rfl (congrArg not (hb147)) ?_))))))))))
         obtain ⟨r149, hx150, hr151⟩ := bd_some hr148
         refine clS C28 rfl rfl rfl rfl (fun w H hH le => w28 x131.new_ 0 999999999 hx150) (gN rfl rfl (congrArg not (hb147)) (nt rfl rfl (pF rfl rfl (congrArg not (hb147)) rfl (on ?_))))
         cases hr151
         exact cu ⟨rfl, rfl, rfl, tv⟩
        ·have hr152 := if_f hb147 hr146
         refine gF rfl rfl (congrArg not (hb147)) rfl (gF rfl rfl (congrArg not (hb147)) rfl (gF rfl rfl (congrArg not (hb147)) rfl (gF rfl rfl (congrArg not (hb147)) rfl (gF rfl rfl (congrArg not (hb147)) rfl (gF rfl rfl (congrArg not (hb147)) rfl (gF rfl rfl (congrArg not (hb147)) rfl (pT rfl rfl (congrArg not (hb147)) rfl (on ?_))))))))
         cases hr152
         exact cu ⟨rfl, rfl, rfl, tv⟩
      ·have hr153 := if_n hb139 hr133
       refine gf hb139 rfl (gf hb139 rfl (gf hb139 rfl (gf hb139 rfl (gf hb139 rfl (gf hb139 rfl (pf hb139 rfl rfl (m1 rfl (gN rfl rfl rfl (m1 rfl (gN rfl rfl rfl (m1 rfl ?_)))))))))))
       refine gN rfl rfl rfl (iaP U27 Z48 rfl rfl rfl rfl (lt_of hx132) (gN rfl rfl rfl (fb 1 U48 rfl rfl rfl rfl Z3 (gN rfl rfl rfl (ld G3 rfl rfl (((sS 0 rfl hq137).drop 1).take 1) rfl (gN rfl rfl rfl ?_))))))
       obtain ⟨r154, hx155, hr156⟩ := bd_some hr153
       refine clS C28 rfl rfl rfl rfl (fun w H hH le => w28 x131.old_ 0 999999999 hx155) (gN rfl rfl rfl (nt rfl rfl (pF rfl rfl rfl rfl (m1 rfl ?_))))
       rcases Bool.eq_false_or_eq_true (r154) with hb157 | hb157
       ·have hr158 := if_p hb157 hr156
        refine gN rfl rfl (congrArg not (hb157)) (m1 rfl (gN rfl rfl (congrArg not (hb157)) (m1 rfl (gN rfl rfl (congrArg not (hb157)) (iaP U27 Z48 rfl rfl rfl rfl (lt_of hx132) (gN rfl rfl (congrArg not (hb157)) (fb 2 U48 rfl rfl rfl rfl Z3 (gN rfl rfl (congrArg not (hb157)) (ld G3 rfl rfl ((sS 0 rfl hq137).drop 2) rfl (gN rfl rfl (congrArg not (hb157)) ?_))))))))))
        obtain ⟨r159, hx160, hr161⟩ := bd_some hr158
        refine clS C28 rfl rfl rfl rfl (fun w H hH le => w28 x131.new_ 0 999999999 hx160) (gN rfl rfl (congrArg not (hb157)) (nt rfl rfl (pF rfl rfl (congrArg not (hb157)) rfl (on ?_))))
        cases hr161
        exact cu ⟨rfl, rfl, rfl, tv⟩
       ·have hr162 := if_f hb157 hr156
        refine gF rfl rfl (congrArg not (hb157)) rfl (gF rfl rfl (congrArg not (hb157)) rfl (gF rfl rfl (congrArg not (hb157)) rfl (gF rfl rfl (congrArg not (hb157)) rfl (gF rfl rfl (congrArg not (hb157)) rfl (gF rfl rfl (congrArg not (hb157)) rfl (gF rfl rfl (congrArg not (hb157)) rfl (pT rfl rfl (congrArg not (hb157)) rfl (on ?_))))))))
        cases hr162
        exact cu ⟨rfl, rfl, rfl, tv⟩
     ·rintro a w ⟨hS, hA⟩
      refine TG.ap ?_ hS hA
      refine cb rfl (fun hc166 => ?_) (fun hc166 => ?_)
      ·have hr167 := if_p hc166 hr130
       refine sq (rg (a1 rfl (on (rt_ ?_))))
       cases hr167
       obtain rfl := Fin.out hz53
       cases hr49
       intro a w hS hA
       refine ret1 hA rfl rfl ?_
       exact ⟨rfl, hS.ext⟩
      ·have hr168 := if_f hc166 hr130
       refine sk (rg (m1 rfl (adI rfl rfl rfl (by omega) (a1 rfl (on ?_)))))
       cases hr168
       intro a w hS hA
       exact ⟨_, hz53, hS, hA.cut ⟨rfl, rfl, tv⟩⟩
    ·have hr169 := if_n hc58 hr52
     refine xt rfl ?_
     cases hr169
     obtain rfl := Fin.out hz53
     intro a w hS hA
     exact ⟨_, rfl, hS, hA.cut tv⟩
  ·rintro a w ⟨t50, rfl, hS, hA⟩
   refine TG.ap ?_ hS hA
   refine sq (rg (a1 rfl (on (rt_ ?_))))
   cases hr49
   intro a w hS hA
   refine ret1 hA rfl rfl ?_
   exact ⟨rfl, hS.ext⟩

theorem w22 {M : Prop} {W : World} {H : Hp} (hH : H.le (hp W)) {cs_l_0 : List Value} (l_0 : Lexicon) (h_l_0 : (RLexicon) H cs_l_0 l_0) {ad_swaps : Option Addr} {cap_swaps : Nat} {swaps : List Swap} (h_swaps : Sl (Flat encSwap) 3 H ad_swaps cap_swaps swaps) {r : Int} (hr : m22 l_0 swaps = some r) : Calls Tryz.prog 22 [.agg cs_l_0.toArray, .slice ad_swaps swaps.length cap_swaps].toArray W (RetS M W (.int .i64 r)) := by
 have hh_l_0 := h_l_0
 obtain ⟨ad1, cap2, ad4, cap5, ad7, cap8, rfl, hl3, hl6, hl9⟩ := h_l_0
 have := hl3.len
 have := hl6.len
 have := hl9.len
 have := h_swaps.len
 unfold m22 at hr
 refine enterG (M := M) Tryz.func22 rfl Tryz.ntmps22 rfl hH ?_
 refine sq (rg (bI (cs := [.slice ad1 l_0.numbers.length cap2, .slice ad4 l_0.names.length cap5, .slice ad7 l_0.nots.length cap8]) rfl rfl rfl fun q10 K11 hK12 => (a1 rfl (on (sq (sq (rg (ldA G26 Z26 rfl rfl (sS 0 rfl hK12) rfl ?_))))))))
 obtain ⟨r13, hx14, hr15⟩ := bd_some hr
 refine clS C34 rfl rfl rfl rfl (fun w H hH le => w34 hH l_0 (RLexicon.mono _ _ _ _ (le.at 1 rfl) hh_l_0) hx14) (a1 rfl (on (sq (rg (m1 rfl (neI rfl rfl rfl (on ?_)))))))
 refine ci rfl (fun hc19 => ?_) (fun hc19 => ?_)
 ·have hr20 := if_p hc19 hr15
  refine sq (rg (m1 rfl (a1 rfl (on (rt_ ?_)))))
  cases hr20
  intro a w hS hA
  refine ret1 hA rfl rfl ?_
  exact ⟨rfl, hS.ext⟩
 ·have hr21 := if_n hc19 hr15
  refine sk (sq (rg (m1 rfl ?_)))
  obtain ⟨r22, hx23, hr24⟩ := bd_some hr21
  refine clS C27 rfl rfl rfl rfl (fun w H hH le => w27 hH (h_swaps.mono (Flat.mono _) (le.at 1 rfl)) hx23) (a1 rfl (on (rt_ ?_)))
  cases hr24
  intro a w hS hA
  refine ret1 hA rfl rfl ?_
  exact ⟨rfl, hS.ext⟩

theorem w23 {M : Prop} {W : World} {H : Hp} (hH : H.le (hp W)) {ad_l_0 : Option Addr} {cap_l_0 : Nat} {l_0 : List Bytes} (h_l_0 : Sl (Flat encS) 1 H ad_l_0 cap_l_0 l_0) {r : Int} (hr : m23 l_0 = some r) : Calls Tryz.prog 23 [.slice ad_l_0 l_0.length cap_l_0].toArray W (RetS M W (.int .i64 r)) := by
 have := h_l_0.len
 unfold m23 at hr
 refine enterG (M := M) Tryz.func23 rfl Tryz.ntmps23 rfl hH ?_
 refine sq (rg (a1 rfl (on (sq (sq (rg (m1 rfl (lnL U24 rfl rfl (gtI rfl rfl rfl (on ?_))))))))))
 refine ci rfl (fun hc4 => ?_) (fun hc4 => ?_)
 ·have hr5 := if_p hc4 hr
  refine sq (rg (a1 rfl (on (rt_ ?_))))
  cases hr5
  intro a w hS hA
  refine ret1 hA rfl rfl ?_
  exact ⟨rfl, hS.ext⟩
 ·have hr6 := if_n hc4 hr
  refine sk (sq (sq (rg (m1 rfl ?_))))
  obtain ⟨r7, hx8, hr9⟩ := bd_some hr6
  refine clS C55 rfl rfl rfl rfl (fun w H hH le => w55 hH (h_l_0.mono (Flat.mono _) (le.at 0 rfl)) 80 hx8) (nt rfl rfl (on ?_))
  refine cb rfl (fun hc13 => ?_) (fun hc13 => ?_)
  ·replace hc13 := nbt hc13
   have hr14 := if_f hc13 hr9
   refine sq (rg (a1 rfl (on (rt_ ?_))))
   cases hr14
   intro a w hS hA
   refine ret1 hA rfl rfl ?_
   exact ⟨rfl, hS.ext⟩
  ·replace hc13 := nbf hc13
   have hr15 := if_p hc13 hr9
   refine sk (sq (rg (a1 rfl (on (rt_ ?_)))))
   cases hr15
   intro a w hS hA
   refine ret1 hA rfl rfl ?_
   exact ⟨rfl, hS.ext⟩

theorem w4 {M : Prop} {W : World} {H : Hp} (hH : H.le (hp W)) (hg : Gv M H) {cs_l_0 : List Value} (l_0 : Lexicon) (h_l_0 : (RLexicon) H cs_l_0 l_0) {ad_swaps : Option Addr} {cap_swaps : Nat} {swaps : List Swap} (h_swaps : Sl (Flat encSwap) 3 H ad_swaps cap_swaps swaps) {ad_a_2 : Option Addr} {cap_a_2 : Nat} {a_2 : List Bytes} (h_a_2 : Sl (Flat encS) 1 H ad_a_2 cap_a_2 a_2) {ad_b_3 : Option Addr} {cap_b_3 : Nat} {b_3 : List Bytes} (h_b_3 : Sl (Flat encS) 1 H ad_b_3 cap_b_3 b_3) {cs_more : List Value} (more : Swap) (h_more : (Flat encSwap) H cs_more more) {r : Bool} (hr : m4 l_0 swaps a_2 b_3 more = some r) : Calls Tryz.prog 4 [.agg cs_l_0.toArray, .slice ad_swaps swaps.length cap_swaps, .slice ad_a_2 a_2.length cap_a_2, .slice ad_b_3 b_3.length cap_b_3, .agg cs_more.toArray].toArray W (RetS M W (.bool r)) := by
 have hh_l_0 := h_l_0
 obtain ⟨ad1, cap2, ad4, cap5, ad7, cap8, rfl, hl3, hl6, hl9⟩ := h_l_0
 have := hl3.len
 have := hl6.len
 have := hl9.len
 have := h_swaps.len
 have := h_a_2.len
 have := h_b_3.len
 obtain rfl := h_more
 unfold m4 at hr
 refine enterG (M := M) Tryz.func4 rfl Tryz.ntmps4 rfl hH ?_
 refine sq (rg (bI (cs := [.slice ad1 l_0.numbers.length cap2, .slice ad4 l_0.names.length cap5, .slice ad7 l_0.nots.length cap8]) rfl rfl rfl fun q10 K11 hK12 => (bI (cs := [.int .u8 more.kind, .int .i64 more.old_, .int .i64 more.new_]) rfl rfl rfl fun q13 K14 hK15 => (a1 rfl (on (sq (sq ?_)))))))
 obtain ⟨t49, hx50, hr51⟩ := bd_some hr
 refine jn (fun a w => St M W H [K14, K11, H] [] w ∧ Has [] 258 a [(1, .slice ad_swaps swaps.length cap_swaps), (2, .slice ad_a_2 a_2.length cap_a_2), (3, .slice ad_b_3 b_3.length cap_b_3), (5, .pointer (some q10)), (9, .pointer (some q13)), (57, .bool t49)]) ?_ ?_
 ·refine rg (ldA G26 Z26 rfl rfl (sS 1 rfl hK12) rfl (m1 rfl ?_))
  obtain ⟨r52, hx53, hr54⟩ := bd_some hx50
  refine clS C15 rfl rfl rfl rfl (fun w H hH le => w15 hH l_0 (RLexicon.mono _ _ _ _ (le.at 2 rfl) hh_l_0) (h_swaps.mono (Flat.mono _) (le.at 2 rfl)) hx53) (nt rfl rfl (m1 rfl ?_))
  rcases Bool.eq_false_or_eq_true (r52) with hb55 | hb55
  ·have hr56 := if_p hb55 hr54
   refine gN rfl rfl (congrArg not (hb55)) (m1 rfl (gN rfl rfl (congrArg not (hb55)) ?_))
   obtain ⟨r57, hx58, hr59⟩ := bd_some hr56
   refine clS C16 rfl rfl rfl rfl (fun w H hH le => w16 hH (h_a_2.mono (Flat.mono _) (le.at 2 rfl)) 90 hx58) (gN rfl rfl (congrArg not (hb55)) (nt rfl rfl (pF rfl rfl (congrArg not (hb55)) rfl (m1 rfl ?_))))
   rcases Bool.eq_false_or_eq_true (r57) with hb60 | hb60
   ·have hr61 := if_p hb60 hr59
    refine gN rfl rfl (congrArg not (hb60)) (m1 rfl (gN rfl rfl (congrArg not (hb60)) ?_))
    obtain ⟨r62, hx63, hr64⟩ := bd_some hr61
    refine clS C16 rfl rfl rfl rfl (fun w H hH le => w16 hH (h_b_3.mono (Flat.mono _) (le.at 2 rfl)) 90 hx63) (gN rfl rfl (congrArg not (hb60)) (nt rfl rfl (pF rfl rfl (congrArg not (hb60)) rfl (m1 rfl ?_))))
    rcases Bool.eq_false_or_eq_true (r62) with hb65 | hb65
    ·have hr66 := if_p hb65 hr64
     refine gN rfl rfl (congrArg not (hb65)) (ldA G26 Z26 rfl rfl (sS 1 rfl hK12) rfl (gN rfl rfl (congrArg not (hb65)) (m1 rfl (gN rfl rfl (congrArg not (hb65)) ?_))))
     obtain ⟨r67, hx68, hr69⟩ := bd_some hr66
     refine clS C22 rfl rfl rfl rfl (fun w H hH le => w22 hH l_0 (RLexicon.mono _ _ _ _ (le.at 2 rfl) hh_l_0) (h_swaps.mono (Flat.mono _) (le.at 2 rfl)) hx68) (gN rfl rfl (congrArg not (hb65)) (neI rfl rfl rfl (pF rfl rfl (congrArg not (hb65)) rfl (m1 rfl ?_))))
     by_cases hb70 : r67 ≠ 0
     ·have hr71 := if_p hb70 hr69
      refine gf' hb70 rfl (gf' hb70 rfl (gf' hb70 rfl (pt hb70 rfl rfl (m1 rfl (gF rfl rfl rfl rfl (gF rfl rfl rfl rfl (gF rfl rfl rfl rfl (pT rfl rfl rfl rfl (on ?_)))))))))
      cases hr71
      exact cu ⟨rfl, rfl, rfl, rfl, rfl, rfl, tv⟩
     ·have hr72 := if_n hb70 hr69
      refine gt' hb70 rfl (m1 rfl (gt' hb70 rfl ?_))
      obtain ⟨r73, hx74, hr75⟩ := bd_some hr72
      refine clS C23 rfl rfl rfl rfl (fun w H hH le => w23 hH (h_a_2.mono (Flat.mono _) (le.at 2 rfl)) hx74) (gt' hb70 rfl (neI rfl rfl rfl (pf hb70 rfl rfl (m1 rfl ?_))))
      by_cases hb76 : r73 ≠ 0
      ·have hr77 := if_p hb76 hr75
       refine gf' hb76 rfl (gf' hb76 rfl (gf' hb76 rfl (pt hb76 rfl rfl (on ?_))))
       cases hr77
       exact cu ⟨rfl, rfl, rfl, rfl, rfl, rfl, tv⟩
      ·have hr78 := if_n hb76 hr75
       refine gt' hb76 rfl (m1 rfl (gt' hb76 rfl ?_))
       obtain ⟨r79, hx80, hr81⟩ := bd_some hr78
       refine clS C23 rfl rfl rfl rfl (fun w H hH le => w23 hH (h_b_3.mono (Flat.mono _) (le.at 2 rfl)) hx80) (gt' hb76 rfl (neI rfl rfl rfl (pf hb76 rfl rfl (on ?_))))
       cases hr81
       exact cu ⟨rfl, rfl, rfl, rfl, rfl, rfl, tv⟩
    ·have hr82 := if_f hb65 hr64
     refine gF rfl rfl (congrArg not (hb65)) rfl (gF rfl rfl (congrArg not (hb65)) rfl (gF rfl rfl (congrArg not (hb65)) rfl (gF rfl rfl (congrArg not (hb65)) rfl (pT rfl rfl (congrArg not (hb65)) rfl (m1 rfl (gF rfl rfl rfl rfl (gF rfl rfl rfl rfl (gF rfl rfl rfl rfl (pT rfl rfl rfl rfl (m1 rfl (gF rfl rfl rfl rfl ?_)))))))))))
     refine gF rfl rfl rfl rfl (gF rfl rfl rfl rfl (pT rfl rfl rfl rfl (on ?_)))
     cases hr82
     exact cu ⟨rfl, rfl, rfl, rfl, rfl, rfl, tv⟩
   ·have hr83 := if_f hb60 hr59
    refine gF rfl rfl (congrArg not (hb60)) rfl (gF rfl rfl (congrArg not (hb60)) rfl (gF rfl rfl (congrArg not (hb60)) rfl (pT rfl rfl (congrArg not (hb60)) rfl (m1 rfl (gF rfl rfl rfl rfl (gF rfl rfl rfl rfl (gF rfl rfl rfl rfl (gF rfl rfl rfl rfl (pT rfl rfl rfl rfl (m1 rfl (gF rfl rfl rfl rfl ?_)))))))))))
    refine gF rfl rfl rfl rfl (gF rfl rfl rfl rfl (pT rfl rfl rfl rfl (m1 rfl (gF rfl rfl rfl rfl (gF rfl rfl rfl rfl (gF rfl rfl rfl rfl (pT rfl rfl rfl rfl (on ?_))))))))
    cases hr83
    exact cu ⟨rfl, rfl, rfl, rfl, rfl, rfl, tv⟩
  ·have hr84 := if_f hb55 hr54
   refine gF rfl rfl (congrArg not (hb55)) rfl (gF rfl rfl (congrArg not (hb55)) rfl (gF rfl rfl (congrArg not (hb55)) rfl (pT rfl rfl (congrArg not (hb55)) rfl (m1 rfl (gF rfl rfl rfl rfl (gF rfl rfl rfl rfl (gF rfl rfl rfl rfl (pT rfl rfl rfl rfl (m1 rfl (gF rfl rfl rfl rfl (gF rfl rfl rfl rfl ?_)))))))))))
   refine gF rfl rfl rfl rfl (gF rfl rfl rfl rfl (pT rfl rfl rfl rfl (m1 rfl (gF rfl rfl rfl rfl (gF rfl rfl rfl rfl (gF rfl rfl rfl rfl (pT rfl rfl rfl rfl (m1 rfl (gF rfl rfl rfl rfl (gF rfl rfl rfl rfl (gF rfl rfl rfl rfl ?_)))))))))))
   refine pT rfl rfl rfl rfl (on ?_)
   cases hr84
   exact cu ⟨rfl, rfl, rfl, rfl, rfl, rfl, tv⟩
 ·rintro a w ⟨hS, hA⟩
  refine TG.ap ?_ hS hA
  refine cb rfl (fun hc91 => ?_) (fun hc91 => ?_)
  ·have hr92 := if_p hc91 hr51
   refine sq (rg ?_)
   obtain ⟨r93, hx94, hr95⟩ := bd_some hr92
   refine clS C17 rfl rfl rfl rfl (fun w H hH le => w17 hH (hg.mono (le.at 2 rfl))  hx94) (a1 rfl (on (rt_ ?_)))
   cases hr95
   intro a w hS hA
   refine ret1 hA rfl rfl ?_
   exact ⟨rfl, hS.ext⟩
  ·have hr96 := if_f hc91 hr51
   refine sk (sq (rg (ldA G26 Z26 rfl rfl (sS 1 rfl hK12) rfl ?_)))
   obtain ⟨r97, hx98, hr99⟩ := bd_some hr96
   refine clK C19 rfl rfl rfl rfl (fun w H hH le => w19 hH l_0 (RLexicon.mono _ _ _ _ (le.at 2 rfl) hh_l_0) hx98) ?_
   rintro v_ K100 ⟨cs101, rfl, hr102⟩
   have hr103 := hr102
   obtain ⟨ad104, cap105, ad107, cap108, ad110, cap111, rfl, hl106, hl109, hl112⟩ := hr102
   have := hl106.len
   have := hl109.len
   have := hl112.len
   refine m1 rfl ?_
   obtain ⟨r113, hx114, hr115⟩ := bd_some hr99
   refine clK C20 rfl rfl rfl rfl (fun w H hH le => w20 hH (h_swaps.mono (Flat.mono _) (le.at 3 rfl)) hx114) ?_
   rintro v_ K116 ⟨ad117, cap118, rfl, hl119⟩
   have := hl119.len
   refine m1 rfl ?_
   obtain ⟨r120, hx121, hr122⟩ := bd_some hr115
   refine clK C21 rfl rfl rfl rfl (fun w H hH le => w21 hH (h_a_2.mono (Flat.mono _) (le.at 4 rfl)) hx121) ?_
   rintro v_ K123 ⟨ad124, cap125, rfl, hl126⟩
   have := hl126.len
   refine m1 rfl ?_
   obtain ⟨r127, hx128, hr129⟩ := bd_some hr122
   refine clK C21 rfl rfl rfl rfl (fun w H hH le => w21 hH (h_b_3.mono (Flat.mono _) (le.at 5 rfl)) hx128) ?_
   rintro v_ K130 ⟨ad131, cap132, rfl, hl133⟩
   have := hl133.len
   obtain ⟨r134, hx135, hr136⟩ := bd_some hr129
   refine clS C18 rfl rfl rfl rfl (fun w H hH le => w18 hH (hg.mono (le.at 6 rfl)) r97 (RLexicon.mono _ _ _ _ (le.at 3 rfl) hr103) (hl119.mono (Flat.mono _) (le.at 2 rfl)) (hl126.mono (Flat.mono _) (le.at 1 rfl)) (hl133.mono (Flat.mono _) (le.at 0 rfl)) hx135) (m1 rfl (ex rfl rfl rfl (ex rfl rfl rfl (a1 rfl (a1 rfl (on (sq (rg (ldA G26 Z26 rfl rfl (sS 5 rfl hK12) rfl (clK C19 rfl rfl rfl rfl (fun w H hH le => w19 hH l_0 (RLexicon.mono _ _ _ _ (le.at 6 rfl) hh_l_0) hx98) ?_))))))))))
   rintro v_ K137 ⟨cs138, rfl, hr139⟩
   have hr140 := hr139
   obtain ⟨ad141, cap142, ad144, cap145, ad147, cap148, rfl, hl143, hl146, hl149⟩ := hr139
   have := hl143.len
   have := hl146.len
   have := hl149.len
   refine m1 rfl (clK C21 rfl rfl rfl rfl (fun w H hH le => w21 hH (h_a_2.mono (Flat.mono _) (le.at 7 rfl)) hx121) ?_)
   rintro v_ K150 ⟨ad151, cap152, rfl, hl153⟩
   have := hl153.len
   refine m1 rfl (clK C21 rfl rfl rfl rfl (fun w H hH le => w21 hH (h_b_3.mono (Flat.mono _) (le.at 8 rfl)) hx128) ?_)
   rintro v_ K154 ⟨ad155, cap156, rfl, hl157⟩
   have := hl157.len
   obtain ⟨r158, hx159, hr160⟩ := bd_some hr136
   refine clS C18 rfl rfl rfl rfl (fun w H hH le => w18 hH (hg.mono (le.at 9 rfl)) r97 (RLexicon.mono _ _ _ _ (le.at 2 rfl) hr140) (swaps := []) (Sl.nil _ _ _ _ _ (by decide)) (hl153.mono (Flat.mono _) (le.at 1 rfl)) (hl157.mono (Flat.mono _) (le.at 0 rfl)) hx159) (m1 rfl (ex rfl rfl rfl (ex rfl rfl rfl (a1 rfl (a1 rfl (on (sq (rg (ldA G26 Z26 rfl rfl (sS 8 rfl hK12) rfl (clK C19 rfl rfl rfl rfl (fun w H hH le => w19 hH l_0 (RLexicon.mono _ _ _ _ (le.at 9 rfl) hh_l_0) hx98) ?_))))))))))
   rintro v_ K161 ⟨cs162, rfl, hr163⟩
   have hr164 := hr163
   obtain ⟨ad165, cap166, ad168, cap169, ad171, cap172, rfl, hl167, hl170, hl173⟩ := hr163
   have := hl167.len
   have := hl170.len
   have := hl173.len
   refine m1 rfl (clK C21 rfl rfl rfl rfl (fun w H hH le => w21 hH (h_b_3.mono (Flat.mono _) (le.at 10 rfl)) hx128) ?_)
   rintro v_ K174 ⟨ad175, cap176, rfl, hl177⟩
   have := hl177.len
   refine m1 rfl (clK C21 rfl rfl rfl rfl (fun w H hH le => w21 hH (h_a_2.mono (Flat.mono _) (le.at 11 rfl)) hx121) ?_)
   rintro v_ K178 ⟨ad179, cap180, rfl, hl181⟩
   have := hl181.len
   obtain ⟨r182, hx183, hr184⟩ := bd_some hr160
   refine clS C18 rfl rfl rfl rfl (fun w H hH le => w18 hH (hg.mono (le.at 12 rfl)) r97 (RLexicon.mono _ _ _ _ (le.at 2 rfl) hr164) (swaps := []) (Sl.nil _ _ _ _ _ (by decide)) (hl177.mono (Flat.mono _) (le.at 1 rfl)) (hl181.mono (Flat.mono _) (le.at 0 rfl)) hx183) (m1 rfl (ex rfl rfl rfl (ex rfl rfl rfl (a1 rfl (a1 rfl (on (sq (rg (ldA G26 Z26 rfl rfl (sS 11 rfl hK12) rfl (clK C19 rfl rfl rfl rfl (fun w H hH le => w19 hH l_0 (RLexicon.mono _ _ _ _ (le.at 12 rfl) hh_l_0) hx98) ?_))))))))))
   rintro v_ K185 ⟨cs186, rfl, hr187⟩
   have hr188 := hr187
   obtain ⟨ad189, cap190, ad192, cap193, ad195, cap196, rfl, hl191, hl194, hl197⟩ := hr187
   have := hl191.len
   have := hl194.len
   have := hl197.len
   refine m1 rfl (clK C21 rfl rfl rfl rfl (fun w H hH le => w21 hH (h_a_2.mono (Flat.mono _) (le.at 13 rfl)) hx121) ?_)
   rintro v_ K198 ⟨ad199, cap200, rfl, hl201⟩
   have := hl201.len
   obtain ⟨r202, hx203, hr204⟩ := bd_some hr184
   refine clK C26 rfl rfl rfl rfl (fun w H hH le => w26 hH (hg.mono (le.at 14 rfl)) r97 (RLexicon.mono _ _ _ _ (le.at 1 rfl) hr188) (hl201.mono (Flat.mono _) (le.at 0 rfl)) hx203) ?_
   rintro v_ K205 ⟨ad206, cap207, rfl, hl208⟩
   have := hl208.len
   refine m1 rfl (ex rfl rfl rfl (ex rfl rfl rfl (a1 rfl (a1 rfl (on (sq (rg (ldA G26 Z26 rfl rfl (sS 14 rfl hK12) rfl (clK C19 rfl rfl rfl rfl (fun w H hH le => w19 hH l_0 (RLexicon.mono _ _ _ _ (le.at 15 rfl) hh_l_0) hx98) ?_)))))))))
   rintro v_ K209 ⟨cs210, rfl, hr211⟩
   have hr212 := hr211
   obtain ⟨ad213, cap214, ad216, cap217, ad219, cap220, rfl, hl215, hl218, hl221⟩ := hr211
   have := hl215.len
   have := hl218.len
   have := hl221.len
   refine m1 rfl (clK C21 rfl rfl rfl rfl (fun w H hH le => w21 hH (h_b_3.mono (Flat.mono _) (le.at 16 rfl)) hx128) ?_)
   rintro v_ K222 ⟨ad223, cap224, rfl, hl225⟩
   have := hl225.len
   obtain ⟨r226, hx227, hr228⟩ := bd_some hr204
   refine clK C26 rfl rfl rfl rfl (fun w H hH le => w26 hH (hg.mono (le.at 17 rfl)) r97 (RLexicon.mono _ _ _ _ (le.at 1 rfl) hr212) (hl225.mono (Flat.mono _) (le.at 0 rfl)) hx227) ?_
   rintro v_ K229 ⟨ad230, cap231, rfl, hl232⟩
   have := hl232.len
   refine m1 rfl (ex rfl rfl rfl (ex rfl rfl rfl (a1 rfl (a1 rfl (on (sq (sq ?_)))))))
   obtain ⟨t245, hx246, hr247⟩ := bd_some hr228
   refine jn (fun a w => St M W H [K229, K222, K209, K205, K198, K185, K178, K174, K161, K154, K150, K137, K130, K123, K116, K100, K14, K11, H] [] w ∧ Has [] 258 a [(1, .slice ad_swaps swaps.length cap_swaps), (2, .slice ad_a_2 a_2.length cap_a_2), (3, .slice ad_b_3 b_3.length cap_b_3), (5, .pointer (some q10)), (9, .pointer (some q13)), (11, .int .i64 r134.1), (13, .int .i64 r158.1), (15, .int .i64 r182.1), (17, .slice ad206 r202.1.length cap207), (19, .slice ad230 r226.1.length cap231), (124, .bool t245)]) ?_ ?_
   ·refine rg (m1 rfl (neI rfl rfl rfl (m1 rfl ?_)))
    by_cases hb248 : r134.2 ≠ 0
    ·have hr249 := if_p hb248 hx246
     refine gf' hb248 rfl (gf' hb248 rfl (pt hb248 rfl rfl (m1 rfl (gF rfl rfl rfl rfl (gF rfl rfl rfl rfl (pT rfl rfl rfl rfl (m1 rfl (gF rfl rfl rfl rfl (gF rfl rfl rfl rfl (pT rfl rfl rfl rfl (m1 rfl ?_)))))))))))
     refine gF rfl rfl rfl rfl (gF rfl rfl rfl rfl (pT rfl rfl rfl rfl (on ?_)))
     cases hr249
     exact cu ⟨rfl, rfl, rfl, rfl, rfl, rfl, rfl, rfl, rfl, rfl, rfl, tv⟩
    ·have hr250 := if_n hb248 hx246
     refine gt' hb248 rfl (m1 rfl (gt' hb248 rfl (neI rfl rfl rfl (pf hb248 rfl rfl (m1 rfl ?_)))))
     by_cases hb251 : r158.2 ≠ 0
     ·have hr252 := if_p hb251 hr250
      refine gf' hb251 rfl (gf' hb251 rfl (pt hb251 rfl rfl (m1 rfl (gF rfl rfl rfl rfl (gF rfl rfl rfl rfl (pT rfl rfl rfl rfl (m1 rfl (gF rfl rfl rfl rfl (gF rfl rfl rfl rfl (pT rfl rfl rfl rfl (on ?_)))))))))))
      cases hr252
      exact cu ⟨rfl, rfl, rfl, rfl, rfl, rfl, rfl, rfl, rfl, rfl, rfl, tv⟩
     ·have hr253 := if_n hb251 hr250
      refine gt' hb251 rfl (m1 rfl (gt' hb251 rfl (neI rfl rfl rfl (pf hb251 rfl rfl (m1 rfl ?_)))))
      by_cases hb254 : r182.2 ≠ 0
      ·have hr255 := if_p hb254 hr253
       refine gf' hb254 rfl (gf' hb254 rfl (pt hb254 rfl rfl (m1 rfl (gF rfl rfl rfl rfl (gF rfl rfl rfl rfl (pT rfl rfl rfl rfl (on ?_)))))))
       cases hr255
       exact cu ⟨rfl, rfl, rfl, rfl, rfl, rfl, rfl, rfl, rfl, rfl, rfl, tv⟩
      ·have hr256 := if_n hb254 hr253
       refine gt' hb254 rfl (m1 rfl (gt' hb254 rfl (neI rfl rfl rfl (pf hb254 rfl rfl (m1 rfl ?_)))))
       by_cases hb257 : r202.2 ≠ 0
       ·have hr258 := if_p hb257 hr256
        refine gf' hb257 rfl (gf' hb257 rfl (pt hb257 rfl rfl (on ?_)))
        cases hr258
        exact cu ⟨rfl, rfl, rfl, rfl, rfl, rfl, rfl, rfl, rfl, rfl, rfl, tv⟩
       ·have hr259 := if_n hb257 hr256
        refine gt' hb257 rfl (m1 rfl (gt' hb257 rfl (neI rfl rfl rfl (pf hb257 rfl rfl (on ?_)))))
        cases hr259
        exact cu ⟨rfl, rfl, rfl, rfl, rfl, rfl, rfl, rfl, rfl, rfl, rfl, tv⟩
   ·rintro a w ⟨hS, hA⟩
    refine TG.ap ?_ hS hA
    refine cb rfl (fun hc263 => ?_) (fun hc263 => ?_)
    ·have hr264 := if_p hc263 hr247
     refine sq (rg (a1 rfl (on (rt_ ?_))))
     cases hr264
     intro a w hS hA
     refine ret1 hA rfl rfl ?_
     exact ⟨rfl, hS.ext⟩
    ·have hr265 := if_f hc263 hr247
     refine sk (sq (sq ?_))
     obtain ⟨t275, hx276, hr277⟩ := bd_some hr265
     refine jn (fun a w => St M W H [K229, K222, K209, K205, K198, K185, K178, K174, K161, K154, K150, K137, K130, K123, K116, K100, K14, K11, H] [] w ∧ Has [] 258 a [(1, .slice ad_swaps swaps.length cap_swaps), (2, .slice ad_a_2 a_2.length cap_a_2), (3, .slice ad_b_3 b_3.length cap_b_3), (5, .pointer (some q10)), (9, .pointer (some q13)), (11, .int .i64 r134.1), (156, .bool t275)]) ?_ ?_
     ·refine rg (m1 rfl (m1 rfl (neI rfl rfl rfl (m1 rfl ?_))))
      by_cases hb278 : r158.1 ≠ r182.1
      ·have hr279 := if_p hb278 hx276
       refine gf' hb278 rfl (gf' hb278 rfl (gf' hb278 rfl (pt hb278 rfl rfl (m1 rfl (gF rfl rfl rfl rfl (gF rfl rfl rfl rfl (gF rfl rfl rfl rfl (gF rfl rfl rfl rfl (gF rfl rfl rfl rfl (gF rfl rfl rfl rfl (gF rfl rfl rfl rfl ?_)))))))))))
       refine pT rfl rfl rfl rfl (m1 rfl (gF rfl rfl rfl rfl (gF rfl rfl rfl rfl (gF rfl rfl rfl rfl (gF rfl rfl rfl rfl (gF rfl rfl rfl rfl (gF rfl rfl rfl rfl (gF rfl rfl rfl rfl (gF rfl rfl rfl rfl (gF rfl rfl rfl rfl (gF rfl rfl rfl rfl ?_)))))))))))
       refine gF rfl rfl rfl rfl (gF rfl rfl rfl rfl (gF rfl rfl rfl rfl (pT rfl rfl rfl rfl (on ?_))))
       cases hr279
       exact cu ⟨rfl, rfl, rfl, rfl, rfl, rfl, rfl, tv⟩
      ·have hr280 := if_n hb278 hx276
       refine gt' hb278 rfl (m1 rfl (gt' hb278 rfl (m1 rfl (gt' hb278 rfl (gtI rfl rfl rfl (pf hb278 rfl rfl (m1 rfl ?_)))))))
       by_cases hb281 : r158.1 < r134.1
       ·have hr282 := if_p hb281 hr280
        refine gf' hb281 rfl (gf' hb281 rfl (gf' hb281 rfl (gf' hb281 rfl (gf' hb281 rfl (gf' hb281 rfl (gf' hb281 rfl (pt hb281 rfl rfl (m1 rfl (gF rfl rfl rfl rfl (gF rfl rfl rfl rfl (gF rfl rfl rfl rfl ?_)))))))))))
        refine gF rfl rfl rfl rfl (gF rfl rfl rfl rfl (gF rfl rfl rfl rfl (gF rfl rfl rfl rfl (gF rfl rfl rfl rfl (gF rfl rfl rfl rfl (gF rfl rfl rfl rfl (gF rfl rfl rfl rfl (gF rfl rfl rfl rfl (gF rfl rfl rfl rfl (pT rfl rfl rfl rfl (on ?_)))))))))))
        cases hr282
        exact cu ⟨rfl, rfl, rfl, rfl, rfl, rfl, rfl, tv⟩
       ·have hr283 := if_n hb281 hr280
        refine gt' hb281 rfl (m1 rfl (gt' hb281 rfl (m1 rfl (gt' hb281 rfl (lnL U49 rfl rfl (gt' hb281 rfl (m1 rfl (gt' hb281 rfl (lnL U49 rfl rfl (gt' hb281 rfl (mx2 rfl rfl rfl ?_)))))))))))
        refine gt' hb281 rfl (gtI rfl rfl rfl (pf hb281 rfl rfl (m1 rfl ?_)))
        by_cases hb284 : (max (r202.1.length : Int) (r226.1.length : Int)) < r158.1
        ·have hr285 := if_p hb284 hr283
         refine gf' hb284 rfl (gf' hb284 rfl (gf' hb284 rfl (gf' hb284 rfl (gf' hb284 rfl (gf' hb284 rfl (gf' hb284 rfl (gf' hb284 rfl (gf' hb284 rfl (gf' hb284 rfl (gf' hb284 rfl (gf' hb284 rfl ?_)))))))))))
         refine gf' hb284 rfl (pt hb284 rfl rfl (on ?_))
         cases hr285
         exact cu ⟨rfl, rfl, rfl, rfl, rfl, rfl, rfl, tv⟩
        ·have hr286 := if_n hb284 hr283
         refine gt' hb284 rfl (m1 rfl (gt' hb284 rfl (m1 rfl (gt' hb284 rfl (lnL U49 rfl rfl (gt' hb284 rfl (m1 rfl (gt' hb284 rfl (lnL U49 rfl rfl (gt' hb284 rfl (sbI rfl rfl rfl (by omega) ?_)))))))))))
         refine gt' hb284 rfl (m1 rfl (gt' hb284 rfl (lnL U49 rfl rfl (gt' hb284 rfl (m1 rfl (gt' hb284 rfl (lnL U49 rfl rfl (gt' hb284 rfl (sbI rfl rfl rfl (by omega) (gt' hb284 rfl (mx2 rfl rfl rfl ?_)))))))))))
         refine gt' hb284 rfl (ltI rfl rfl rfl (pf hb284 rfl rfl (on ?_)))
         cases hr286
         exact cu ⟨rfl, rfl, rfl, rfl, rfl, rfl, rfl, tv⟩
     ·rintro a w ⟨hS, hA⟩
      refine TG.ap ?_ hS hA
      refine cb rfl (fun hc290 => ?_) (fun hc290 => ?_)
      ·have hr291 := if_p hc290 hr277
       refine sq (rg (a1 rfl (on (rt_ ?_))))
       cases hr291
       intro a w hS hA
       refine ret1 hA rfl rfl ?_
       exact ⟨rfl, hS.ext⟩
      ·have hr292 := if_f hc290 hr277
       refine sk (sq ?_)
       obtain ⟨hk294, hr295⟩ := chk_some hr292
       have := lenA ([] : List Swap) swaps
       refine drG3 5 [0, 2] [] mixed (fun _ _ _ _ _ h => h) (by kernel_rfl) (by kernel_rfl) (by kernel_rfl) rfl (by kernel_rfl) (.nil) (DC.turn (α := Nat) 0 (fun b293 => .slice (some ⟨b293, 0, none⟩) (([] : List Swap).length) 0) (fun _ _ => True) (fun b293 => [(1, Own.list (some ⟨b293, 0, none⟩) 0 48 3 encSwap ([] : List Swap))]) rfl (fun _ _ _ _ h => h) (by kernel_rfl) rfl rfl (fun a w K hS hA hF => TG.pa hS hA (bSL 1 encSwap ([] : List Swap) (cs := []) T4.E27 rfl rfl rfl rfl rfl rfl fun b293 => finT (f := fun b293 => .slice (some ⟨b293, 0, none⟩) (([] : List Swap).length) 0) (G := fun _ _ => True) (σ1 := fun b293 => [(1, Own.list (some ⟨b293, 0, none⟩) 0 48 3 encSwap ([] : List Swap))]) b293 tv)) fun b293 => (DC.det (fun τ => τ = [(1, Own.list (some ⟨b293, 0, none⟩) 0 48 3 encSwap ([] : List Swap))] ∨ τ = []) rfl (.inl rfl) (by kernel_rfl) ⟨.inl (.inr (rfl)), tv⟩ rfl rfl (fun τ hτ a w K hS hA hF => by rcases hτ with rfl | rfl <;> exact TG.pa hS hA (m1 rfl fin1)) (DC.turn (α := Option Addr × Nat) (none, 0) (fun q => .slice q.1 ((([] : List Swap) ++ swaps).length) q.2) (fun _ _ => True) (fun q => [(1, Own.list q.1 q.2 48 3 encSwap (([] : List Swap) ++ swaps))]) rfl (fun _ _ _ _ h => h) (by kernel_rfl) rfl rfl (fun a w K hS hA hF => TG.pa hS hA (apS 1 (enc := encSwap) (l := ([] : List Swap)) (m := swaps) T4.E27 rfl rfl rfl rfl rfl rfl h_swaps 19 rfl (fun _ => rfl) (fun _ => rfl) rfl hk294 fun ad296 cap297 => finT (f := fun q => .slice q.1 ((([] : List Swap) ++ swaps).length) q.2) (G := fun _ _ => True) (σ1 := fun q => [(1, Own.list q.1 q.2 48 3 encSwap (([] : List Swap) ++ swaps))]) (_, _) tv)) ?_)))
       rintro ⟨ad296, cap297⟩
       refine DC.det (fun τ => τ = [(1, Own.list ad296 cap297 48 3 encSwap (([] : List Swap) ++ swaps))] ∨ τ = [] ∨ τ = [(1, Own.list (some ⟨b293, 0, none⟩) 0 48 3 encSwap ([] : List Swap))]) rfl (.inl rfl) (by kernel_rfl) ⟨.inl (.inr (.inr (rfl))), .inl (.inr (.inl rfl)), tv⟩ rfl rfl (fun τ hτ a w K hS hA hF => by rcases hτ with rfl | rfl | rfl <;> exact TG.pa hS hA (ldA G48 Z48 rfl rfl (sS 17 rfl hK15) rfl fin1)) ?_
       refine DC.und (α := Option Addr × Nat) (none, 0) (fun q => .slice q.1 1 q.2) (fun (q : Option Addr × Nat) K => Sl (Flat encSwap) 3 K q.1 q.2 ([more] : List Swap)) (fun τ => τ = [(1, Own.list ad296 cap297 48 3 encSwap (([] : List Swap) ++ swaps))] ∨ τ = [] ∨ τ = [(1, Own.list (some ⟨b293, 0, none⟩) 0 48 3 encSwap ([] : List Swap))]) rfl (.inl rfl) (by kernel_rfl) ⟨.inl (.inr (.inr (rfl))), .inl (.inr (.inl rfl)), tv⟩ (fun _ _ _ h x => x.mono (Flat.mono _) h) (by kernel_rfl) rfl rfl (fun τ hτ a w K hS hA hF => by rcases hτ with rfl | rfl | rfl <;> exact TG.pa hS hA (bS (cs := [.int .u8 more.kind, .int .i64 more.old_, .int .i64 more.new_]) T4.E27 rfl rfl rfl rfl fun q298 K299 hq300 hK301 => by
         have hl302 : Sl (Flat encSwap) 3 K299 (some q298) 1 ([more] : List Swap) := Sl.litR (css := [[.int .u8 more.kind, .int .i64 more.old_, .int .i64 more.new_]]) (l := ([more] : List Swap)) ⟨⟨rfl, rfl, rfl⟩, tv⟩ hq300 hK301 rfl
         have := hl302.len
         exact finU (f := fun q => .slice q.1 1 q.2) (G := (fun (q : Option Addr × Nat) K => Sl (Flat encSwap) 3 K q.1 q.2 ([more] : List Swap))) (_, _) (fun _ _ _ h x => x.mono (Flat.mono _) h) hl302)) ?_
       rintro ⟨ad304, cap305⟩
       refine DC.nil fun K306 hF => ?_
       obtain ⟨hu303, _, _, _⟩ := hF
       have := hu303.len
       obtain ⟨hk307, hr308⟩ := chk_some hr295
       have := lenA (([] : List Swap) ++ swaps) ([more] : List Swap)
       refine apS 1 (enc := encSwap) (l := (([] : List Swap) ++ swaps)) (m := ([more] : List Swap)) T4.E27 rfl rfl rfl rfl rfl rfl hu303 0 rfl (fun _ => rfl) (fun _ => rfl) rfl hk307 fun ad309 cap310 => (a1 rfl (on (sq (sq (rg (m1 rfl ?_))))))
       obtain ⟨r311, hx312, hr313⟩ := bd_some hr308
       refine clL C27 rfl rfl rfl rfl (fun w hS => w27 (Hp.le.refl (hp w)) (list_sl (H := hp w) (enc := encSwap) (size := 3) (ad := ad309) (cap := cap310) (el := 48) (l := ((([] : List Swap) ++ swaps) ++ ([more] : List Swap))) (fun _ => rfl) (hS.get (t := 1) rfl) (fun _ _ _ ho => ho)) hx312) (eqI rfl rfl rfl (on ?_))
       obtain ⟨t357, hx358, hr359⟩ := bd_some hr313
       refine jn (fun a w => ∃ t360, t357 = .inl t360 ∧ St M W H [K306, K229, K222, K209, K205, K198, K185, K178, K174, K161, K154, K150, K137, K130, K123, K116, K100, K14, K11, H] [] w ∧ Has [] 258 a [(1, .slice ad_swaps swaps.length cap_swaps), (2, .slice ad_a_2 a_2.length cap_a_2), (3, .slice ad_b_3 b_3.length cap_b_3), (5, .pointer (some q10)), (11, .int .i64 r134.1)]) ?_ ?_
       ·refine ci rfl (fun hc361 => ?_) (fun hc361 => ?_)
        ·have hr362 := if_p hc361 hx358
         refine sq (rg (ldA G26 Z26 rfl rfl (sS 18 rfl hK12) rfl (clK C19 rfl rfl rfl rfl (fun w H hH le => w19 hH l_0 (RLexicon.mono _ _ _ _ (le.at 19 rfl) hh_l_0) hx98) ?_)))
         rintro v_ K363 ⟨cs364, rfl, hr365⟩
         have hr366 := hr365
         obtain ⟨ad367, cap368, ad370, cap371, ad373, cap374, rfl, hl369, hl372, hl375⟩ := hr365
         have := hl369.len
         have := hl372.len
         have := hl375.len
         refine m1 rfl (TG.still 1 rfl (fun _ => rfl) fun K376 hl377 => ?_)
         have := hl377.len
         obtain ⟨r378, hx379, hr380⟩ := bd_some hr362
         refine clK C20 rfl rfl rfl rfl (fun w H hH le => w20 hH (hl377.mono (Flat.mono _) (le.at 0 rfl)) hx379) ?_
         rintro v_ K381 ⟨ad382, cap383, rfl, hl384⟩
         have := hl384.len
         refine m1 rfl (clK C21 rfl rfl rfl rfl (fun w H hH le => w21 hH (h_a_2.mono (Flat.mono _) (le.at 22 rfl)) hx121) ?_)
         rintro v_ K385 ⟨ad386, cap387, rfl, hl388⟩
         have := hl388.len
         refine m1 rfl (clK C21 rfl rfl rfl rfl (fun w H hH le => w21 hH (h_b_3.mono (Flat.mono _) (le.at 23 rfl)) hx128) ?_)
         rintro v_ K389 ⟨ad390, cap391, rfl, hl392⟩
         have := hl392.len
         obtain ⟨r393, hx394, hr395⟩ := bd_some hr380
         refine clS C18 rfl rfl rfl rfl (fun w H hH le => w18 hH (hg.mono (le.at 24 rfl)) r97 (RLexicon.mono _ _ _ _ (le.at 4 rfl) hr366) (hl384.mono (Flat.mono _) (le.at 2 rfl)) (hl388.mono (Flat.mono _) (le.at 1 rfl)) (hl392.mono (Flat.mono _) (le.at 0 rfl)) hx394) (m1 rfl (ex rfl rfl rfl (ex rfl rfl rfl (a1 rfl (a1 rfl (on (sq ?_)))))))
         obtain ⟨t399, hx400, hr401⟩ := bd_some hr395
         refine jn (fun a w => St M W H [K389, K385, K381, K376, K363, K306, K229, K222, K209, K205, K198, K185, K178, K174, K161, K154, K150, K137, K130, K123, K116, K100, K14, K11, H] [] w ∧ Has [] 258 a [(1, .slice ad_swaps swaps.length cap_swaps), (2, .slice ad_a_2 a_2.length cap_a_2), (3, .slice ad_b_3 b_3.length cap_b_3), (5, .pointer (some q10)), (11, .int .i64 r134.1), (184, .bool t399)]) ?_ ?_
         ·refine rg (m1 rfl (neI rfl rfl rfl (m1 rfl ?_)))
          by_cases hb402 : r393.2 ≠ 0
          ·have hr403 := if_p hb402 hx400
           refine gf' hb402 rfl (gf' hb402 rfl (gf' hb402 rfl (pt hb402 rfl rfl (on ?_))))
           cases hr403
           exact cu ⟨rfl, rfl, rfl, rfl, rfl, rfl, tv⟩
          ·have hr404 := if_n hb402 hx400
           refine gt' hb402 rfl (m1 rfl (gt' hb402 rfl (m1 rfl (gt' hb402 rfl (gtI rfl rfl rfl (pf hb402 rfl rfl (on ?_)))))))
           cases hr404
           exact cu ⟨rfl, rfl, rfl, rfl, rfl, rfl, tv⟩
         ·rintro a w ⟨hS, hA⟩
          refine TG.ap ?_ hS hA
          refine cb rfl (fun hc408 => ?_) (fun hc408 => ?_)
          ·have hr409 := if_p hc408 hr401
           refine sq (rg (a1 rfl (on (rt_ ?_))))
           cases hr409
           cases hr359
           intro a w hS hA
           refine ret1 hA rfl rfl ?_
           exact ⟨rfl, hS.ext⟩
          ·have hr410 := if_f hc408 hr401
           refine sk ?_
           cases hr410
           intro a w hS hA
           exact ⟨_, rfl, hS.selH [5, 6, 7, 8, 9, 10, 11, 12, 13, 14, 15, 16, 17, 18, 19, 20, 21, 22, 23, 24] rfl, hA.cut ⟨rfl, rfl, rfl, rfl, rfl, tv⟩⟩
        ·have hr411 := if_n hc361 hx358
         refine sk (TG.still 1 rfl (fun _ => rfl) fun K412 hl413 => ?_)
         have := hl413.len
         cases hr411
         intro a w hS hA
         exact ⟨_, rfl, hS.selH [1, 2, 3, 4, 5, 6, 7, 8, 9, 10, 11, 12, 13, 14, 15, 16, 17, 18, 19, 20] rfl, hA.cut ⟨rfl, rfl, rfl, rfl, rfl, tv⟩⟩
       ·rintro a w ⟨t360, rfl, hS, hA⟩
        refine TG.ap ?_ hS hA
        refine sq (sq ?_)
        obtain ⟨t423, hx424, hr425⟩ := bd_some hr359
        refine jn (fun a w => St M W H [K306, K229, K222, K209, K205, K198, K185, K178, K174, K161, K154, K150, K137, K130, K123, K116, K100, K14, K11, H] [] w ∧ Has [] 258 a [(1, .slice ad_swaps swaps.length cap_swaps), (2, .slice ad_a_2 a_2.length cap_a_2), (3, .slice ad_b_3 b_3.length cap_b_3), (5, .pointer (some q10)), (11, .int .i64 r134.1), (194, .bool t423)]) ?_ ?_
        ·refine rg (m1 rfl (lnL U24 rfl rfl ?_))
         obtain ⟨r426, hx427, hr428⟩ := bd_some hx424
         refine clS C28 rfl rfl rfl rfl (fun w H hH le => w28 (a_2.length : Int) 1 8 hx427) (nt rfl rfl (m1 rfl ?_))
         rcases Bool.eq_false_or_eq_true (r426) with hb429 | hb429
         ·have hr430 := if_p hb429 hr428
          refine gN rfl rfl (congrArg not (hb429)) (m1 rfl (gN rfl rfl (congrArg not (hb429)) (lnL U24 rfl rfl (gN rfl rfl (congrArg not (hb429)) ?_))))
          obtain ⟨r431, hx432, hr433⟩ := bd_some hr430
          refine clS C28 rfl rfl rfl rfl (fun w H hH le => w28 (b_3.length : Int) 1 8 hx432) (gN rfl rfl (congrArg not (hb429)) (nt rfl rfl (pF rfl rfl (congrArg not (hb429)) rfl (on ?_))))
          cases hr433
          exact cu ⟨rfl, rfl, rfl, rfl, rfl, rfl, tv⟩
         ·have hr434 := if_f hb429 hr428
          refine gF rfl rfl (congrArg not (hb429)) rfl (gF rfl rfl (congrArg not (hb429)) rfl (gF rfl rfl (congrArg not (hb429)) rfl (gF rfl rfl (congrArg not (hb429)) rfl (pT rfl rfl (congrArg not (hb429)) rfl (on ?_)))))
          cases hr434
          exact cu ⟨rfl, rfl, rfl, rfl, rfl, rfl, tv⟩
        ·rintro a w ⟨hS, hA⟩
         refine TG.ap ?_ hS hA
         refine cb rfl (fun hc441 => ?_) (fun hc441 => ?_)
         ·have hr442 := if_p hc441 hr425
          refine sq (rg ?_)
          obtain ⟨r443, hx444, hr445⟩ := bd_some hr442
          refine clS C17 rfl rfl rfl rfl (fun w H hH le => w17 hH (hg.mono (le.at 19 rfl))  hx444) (a1 rfl (on (rt_ ?_)))
          cases hr445
          intro a w hS hA
          refine ret1 hA rfl rfl ?_
          exact ⟨rfl, hS.ext⟩
         ·have hr446 := if_f hc441 hr425
          refine sk (sq (rg (al 2 (cs := [.slice none 0 0, .int .i64 0, .int .i64 0]) Tryz.zeroValue56 rfl rfl fun b447 => (on (sq (sq (rg (a1 rfl (on (TG.nilRow 4 58 2 (TG.as 4 (z := Own.list none 0 58 2 encSaid ([] : List Said)) rfl rfl ?_)))))))))))
          obtain ⟨e529, hl530, hr531⟩ := bd_some hr446
          refine jn (fun a w => ∃ (ad532 : Option Addr) (cap533 : Nat), St M W H [K306, K229, K222, K209, K205, K198, K185, K178, K174, K161, K154, K150, K137, K130, K123, K116, K100, K14, K11, H] [(4, Own.list ad532 cap533 58 2 encSaid e529), (2, cel b447 56 [.slice ad532 e529.length cap533, .int .i64 0, .int .i64 0])] w ∧ Has [] 258 a [(1, .slice ad_swaps swaps.length cap_swaps), (2, .slice ad_a_2 a_2.length cap_a_2), (3, .slice ad_b_3 b_3.length cap_b_3), (5, .pointer (some q10)), (11, .int .i64 r134.1), (24, .pointer (some (⟨b447, 0, none⟩)))]) ?_ ?_
          ·refine bk ?_
           refine lp hl530 (fun s534 a w => ∃ (ad535 : Option Addr) (cap536 : Nat), St M W H [K306, K229, K222, K209, K205, K198, K185, K178, K174, K161, K154, K150, K137, K130, K123, K116, K100, K14, K11, H] [(4, Own.list ad535 cap536 58 2 encSaid s534.2), (2, cel b447 56 [.slice ad535 s534.2.length cap536, .int .i64 0, .int .i64 0])] w ∧ Has [] 258 a [(1, .slice ad_swaps swaps.length cap_swaps), (2, .slice ad_a_2 a_2.length cap_a_2), (3, .slice ad_b_3 b_3.length cap_b_3), (5, .pointer (some q10)), (11, .int .i64 r134.1), (24, .pointer (some (⟨b447, 0, none⟩))), (25, .int .i64 (s534.1 : Int))]) ?_ ?_
           ·intro a w hS hA
            exact ⟨none, 0, hS, hA.cut ⟨rfl, rfl, rfl, rfl, rfl, rfl, rfl, tv⟩⟩
           ·rintro j s534 y539 hr537 hz538 a w ⟨ad535, cap536, hS, hA⟩
            refine TG.ap ?_ hS hA
            unfold m4_1 at hr537
            refine sq (sq (rg (m1 rfl (m1 rfl (lnL U24 rfl rfl (ltI rfl rfl rfl (on ?_)))))))
            refine ci rfl (fun hc543 => ?_) (fun hc543 => ?_)
            ·have hr544 := if_p hc543 hr537
             refine sk (sq (bk ?_))
             obtain ⟨x566, hx567, hr568⟩ := bd_some hr544
             obtain ⟨p569, rfl⟩ := h_a_2.adr hx567
             obtain ⟨cs570, hcs571, hq572, hr573⟩ := h_a_2.at hx567
             obtain rfl := hr573
             refine drG 8 mixed (by kernel_rfl) rfl (dt rfl (fb 0 U56 rfl rfl rfl rfl Z54 fin1) (dt rfl (ld G54 rfl rfl ((sO 2 rfl).take 1) rfl fin1) (dt rfl (m1 rfl fin1) (dt rfl (m1 rfl fin1) (dt rfl (iaP U24 Z9 rfl rfl rfl rfl (lt_of hx567) fin1) (dt rfl (ld G9 rfl rfl (sS 20 rfl hq572) rfl fin1) (dt rfl (bu (cs := [.string (bs x566), .int .i64 5]) T4.B58 rfl rfl rfl fin1) ?_)))))))
             refine DF.und (α := Option Addr × Nat) (none, 0) (fun q => .slice q.1 1 q.2) (fun (q : Option Addr × Nat) K => Sl (Flat encSaid) 2 K q.1 q.2 ([(⟨x566, 5⟩ : Said)] : List Said)) (fun _ _ _ h x => x.mono (Flat.mono _) h) (by kernel_rfl) rfl (fun a w K hS hA hF => TG.pa hS hA (bS (cs := [.string (bs x566), .int .i64 5]) T4.E54 rfl rfl rfl rfl fun q574 K575 hq576 hK577 => by
               have hl578 : Sl (Flat encSaid) 2 K575 (some q574) 1 ([(⟨x566, 5⟩ : Said)] : List Said) := Sl.litR (css := [[.string (bs x566), .int .i64 5]]) (l := ([(⟨x566, 5⟩ : Said)] : List Said)) ⟨⟨rfl, rfl, rfl⟩, tv⟩ hq576 hK577 rfl
               have := hl578.len
               exact finU (f := fun q => .slice q.1 1 q.2) (G := (fun (q : Option Addr × Nat) K => Sl (Flat encSaid) 2 K q.1 q.2 ([(⟨x566, 5⟩ : Said)] : List Said))) (_, _) (fun _ _ _ h x => x.mono (Flat.mono _) h) hl578)) ?_
             rintro ⟨ad580, cap581⟩
             refine DF.nil fun K582 hF => ?_
             obtain ⟨hu579, _⟩ := hF
             have := hu579.len
             obtain ⟨hk583, hr584⟩ := chk_some hr568
             have := lenA s534.2 ([(⟨x566, 5⟩ : Said)] : List Said)
             refine apS 4 (enc := encSaid) (l := s534.2) (m := ([(⟨x566, 5⟩ : Said)] : List Said)) T4.E54 rfl rfl rfl rfl rfl rfl hu579 0 rfl (fun _ => rfl) (fun _ => rfl) rfl hk583 fun ad585 cap586 => (fb 0 U56 rfl rfl rfl rfl Z54 (sto 2 (cs := [.slice ad585 ((s534.2 ++ ([(⟨x566, 5⟩ : Said)] : List Said)).length) cap586]) Z54 rfl rfl rfl rfl rfl rfl rfl (on (rg (m1 rfl (adI rfl rfl rfl (by omega) (a1 rfl (on ?_))))))))
             cases hr584
             intro a w hS hA
             exact ⟨_, hz538, ad585, cap586, hS.selH [1, 2, 3, 4, 5, 6, 7, 8, 9, 10, 11, 12, 13, 14, 15, 16, 17, 18, 19, 20] rfl, hA.cut ⟨rfl, rfl, rfl, rfl, rfl, rfl, rfl, tv⟩⟩
            ·have hr587 := if_n hc543 hr537
             refine xt rfl ?_
             cases hr587
             obtain rfl := Fin.out hz538
             intro a w hS hA
             exact ⟨ad535, cap536, hS, hA.cut ⟨rfl, rfl, rfl, rfl, rfl, rfl, tv⟩⟩
          ·rintro a w ⟨ad532, cap533, hS, hA⟩
           refine TG.ap ?_ hS hA
           refine sq (TG.still 4 rfl (fun _ => rfl) fun K617 hl618 => ?_)
           have := hl618.len
           obtain ⟨r648, hx649, hr650⟩ := bd_some hr531
           refine drG 16 mixed (by kernel_rfl) rfl (dt rfl (ldA G26 Z26 rfl rfl (sS 20 rfl hK12) rfl fin1) ?_)
           refine DF.und (α := List Value) [] (fun q => .agg q.toArray) (fun (q : List Value) K => (RLexicon) K q r97) (fun _ _ _ h x => RLexicon.mono _ _ _ _ h x) (by kernel_rfl) rfl (fun a w K hS hA hF => TG.pa hS hA (clK C19 rfl rfl rfl rfl (fun w H hH le => w19 hH l_0 (RLexicon.mono _ _ _ _ (le.at 21 rfl) hh_l_0) hx98) (by
             rintro v_ K619 ⟨cs620, rfl, hr621⟩
             exact finU (f := fun q => .agg q.toArray) (G := (fun (q : List Value) K => (RLexicon) K q r97)) _ (fun _ _ _ h x => RLexicon.mono _ _ _ _ h x) hr621))) fun cs623 => ?_
           refine dt rfl (m1 rfl fin1) ?_
           refine DF.und (α := Option Addr × Nat) (none, 0) (fun q => .slice q.1 r113.length q.2) (fun (q : Option Addr × Nat) K => Sl (Flat encSwap) 3 K q.1 q.2 r113) (fun _ _ _ h x => x.mono (Flat.mono _) h) (by kernel_rfl) rfl (fun a w K hS hA hF => TG.pa hS hA (clK C20 rfl rfl rfl rfl (fun w H hH le => w20 hH (h_swaps.mono (Flat.mono _) (le.at 21 rfl)) hx114) (by
             rintro v_ K624 ⟨ad625, cap626, rfl, hl627⟩
             exact finU (f := fun q => .slice q.1 r113.length q.2) (G := (fun (q : Option Addr × Nat) K => Sl (Flat encSwap) 3 K q.1 q.2 r113)) (_, _) (fun _ _ _ h x => x.mono (Flat.mono _) h) hl627))) ?_
           rintro ⟨ad629, cap630⟩
           refine dt rfl (ldA G56 Z56 rfl rfl (sO 2 rfl) rfl fin1) (dt rfl (m1 rfl fin1) (dt rfl (lnL U24 rfl rfl fin1) (dt rfl (m1 rfl fin1) ?_)))
           refine DF.und (α := Option Addr × Nat) (none, 0) (fun q => .slice q.1 r127.length q.2) (fun (q : Option Addr × Nat) K => Sl (Flat encS) 1 K q.1 q.2 r127) (fun _ _ _ h x => x.mono (Flat.mono _) h) (by kernel_rfl) rfl (fun a w K hS hA hF => TG.pa hS hA (clK C21 rfl rfl rfl rfl (fun w H hH le => w21 hH (h_b_3.mono (Flat.mono _) (le.at 21 rfl)) hx128) (by
             rintro v_ K631 ⟨ad632, cap633, rfl, hl634⟩
             exact finU (f := fun q => .slice q.1 r127.length q.2) (G := (fun (q : Option Addr × Nat) K => Sl (Flat encS) 1 K q.1 q.2 r127)) (_, _) (fun _ _ _ h x => x.mono (Flat.mono _) h) hl634))) ?_
           rintro ⟨ad636, cap637⟩
           refine DF.und () (fun _ => .agg [.int .i64 5, .int .i64 0, .int .i64 0, .int .i64 (a_2.length : Int), .slice ad636 r127.length cap637].toArray) (fun _ K => Sl (Flat encS) 1 K ad636 cap637 r127) (fun _ _ _ h x => x.mono (Flat.mono _) h) (by kernel_rfl) rfl (fun a w K hS hA hF => TG.pa hS hA (bu (cs := [.int .i64 5, .int .i64 0, .int .i64 0, .int .i64 (a_2.length : Int), .slice ad636 r127.length cap637]) T4.B63 rfl rfl rfl (finF (f := fun _ => .agg [.int .i64 5, .int .i64 0, .int .i64 0, .int .i64 (a_2.length : Int), .slice ad636 r127.length cap637].toArray) (G := fun _ K => Sl (Flat encS) 1 K ad636 cap637 r127) () (hF.1 rfl)))) fun _ => ?_
           refine DF.und (α := Option Addr × Nat) (none, 0) (fun q => .slice q.1 1 q.2) (fun (q : Option Addr × Nat) K => Sl (RRequest) 5 K q.1 q.2 ([(⟨5, 0, 0, (a_2.length : Int), r127⟩ : Request)] : List Request)) (fun _ _ _ h x => x.mono (RRequest.mono) h) (by kernel_rfl) rfl (fun a w K hS hA hF => TG.pa hS hA (bS (cs := [.int .i64 5, .int .i64 0, .int .i64 0, .int .i64 (a_2.length : Int), .slice ad636 r127.length cap637]) T4.E64 rfl rfl rfl rfl fun q639 K640 hq641 hK642 => by
             refine TG.pack (fun K => Sl (RRequest) 5 K (some q639) 1 ([(⟨5, 0, 0, (a_2.length : Int), r127⟩ : Request)] : List Request)) (fun H le => Sl.litR (css := [[.int .i64 5, .int .i64 0, .int .i64 0, .int .i64 (a_2.length : Int), .slice ad636 r127.length cap637]]) (l := ([(⟨5, 0, 0, (a_2.length : Int), r127⟩ : Request)] : List Request)) ⟨⟨rfl, rfl, ⟨_, _, rfl, ((hF.1 rfl).mono (Flat.mono _) (le.at 1 rfl))⟩⟩, tv⟩ hq641 (hK642.mono (le.at 0 rfl)) rfl) fun K644 hl643 => ?_
             have := hl643.len
             refine sk1 ?_
             exact finU (f := fun q => .slice q.1 1 q.2) (G := (fun (q : Option Addr × Nat) K => Sl (RRequest) 5 K q.1 q.2 ([(⟨5, 0, 0, (a_2.length : Int), r127⟩ : Request)] : List Request))) (_, _) (fun _ _ _ h x => x.mono (RRequest.mono) h) hl643)) ?_
           rintro ⟨ad646, cap647⟩
           refine DF.und (α := Option Addr × Nat) (none, 0) (fun q => .tuple [.slice q.1 r648.1.length q.2, .int .i64 r648.2].toArray) (fun (q : Option Addr × Nat) K => Sl (Flat (encI .i64)) 1 K q.1 q.2 r648.1) (fun _ _ _ h x => x.mono (Flat.mono _) h) (by kernel_rfl) rfl (fun a w K hS hA hF => TG.pa hS hA (clK C29 rfl rfl rfl rfl (fun w H hH le => w29 hH (hg.mono (le.at 21 rfl)) r97 (RLexicon.mono _ _ _ _ (le.at 0 rfl) (hF.2.2.2.2.1 rfl)) ((hF.2.2.2.1 rfl).mono (Flat.mono _) (le.at 0 rfl)) (⟨e529, 0, 0⟩ : Report) ⟨_, _, rfl, (hl618.mono (Flat.mono _) (le.at 1 rfl))⟩ ((hF.1 rfl).mono (RRequest.mono) (le.at 0 rfl)) hx649) (by
             rintro v_ K651 ⟨ad652, cap653, rfl, hl654⟩
             exact finU (f := fun q => .tuple [.slice q.1 r648.1.length q.2, .int .i64 r648.2].toArray) (G := (fun (q : Option Addr × Nat) K => Sl (Flat (encI .i64)) 1 K q.1 q.2 r648.1)) (ad652, cap653) (fun _ _ _ h x => x.mono (Flat.mono _) h) hl654))) ?_
           rintro ⟨ad656, cap657⟩
           refine DF.und () (fun _ => .tuple [.slice ad656 r648.1.length cap657, .int .i64 r648.2].toArray) (fun _ K => Sl (Flat (encI .i64)) 1 K ad656 cap657 r648.1) (fun _ _ _ h x => x.mono (Flat.mono _) h) (by kernel_rfl) rfl (fun a w K hS hA hF => TG.pa hS hA (m1 rfl (finF (f := fun _ => .tuple [.slice ad656 r648.1.length cap657, .int .i64 r648.2].toArray) (G := fun _ K => Sl (Flat (encI .i64)) 1 K ad656 cap657 r648.1) () (hF.1 rfl)))) fun _ => (DF.und () (fun _ => .slice ad656 r648.1.length cap657) (fun _ K => Sl (Flat (encI .i64)) 1 K ad656 cap657 r648.1) (fun _ _ _ h x => x.mono (Flat.mono _) h) (by kernel_rfl) rfl (fun a w K hS hA hF => TG.pa hS hA (ex rfl rfl rfl (finF (f := fun _ => .slice ad656 r648.1.length cap657) (G := fun _ K => Sl (Flat (encI .i64)) 1 K ad656 cap657 r648.1) () (hF.1 rfl)))) fun _ => (dt rfl (ex rfl rfl rfl fin1) (DF.und () (fun _ => .slice ad656 r648.1.length cap657) (fun _ K => Sl (Flat (encI .i64)) 1 K ad656 cap657 r648.1) (fun _ _ _ h x => x.mono (Flat.mono _) h) (by kernel_rfl) rfl (fun a w K hS hA hF => TG.pa hS hA (a1 rfl (finF (f := fun _ => .slice ad656 r648.1.length cap657) (G := fun _ K => Sl (Flat (encI .i64)) 1 K ad656 cap657 r648.1) () (hF.1 rfl)))) fun _ => (DF.nil fun K661 hF => ?_))))
           obtain ⟨hu660, hu659, hu658, hu655, hu645, hu638, hu635, hu628, hu622, _⟩ := hF
           have hr662 := hu622
           obtain ⟨ad663, cap664, ad666, cap667, ad669, cap670, rfl, hl665, hl668, hl671⟩ := hu622
           have := hl665.len
           have := hl668.len
           have := hl671.len
           have := hu628.len
           have := hu635.len
           have := hu645.len
           have := hu655.len
           refine a1 rfl (on (sq ?_))
           obtain ⟨t701, hx702, hr703⟩ := bd_some hr650
           refine jn (fun a w => St M W H [K661, K617, K306, K229, K222, K209, K205, K198, K185, K178, K174, K161, K154, K150, K137, K130, K123, K116, K100, K14, K11, H] [(2, cel b447 56 [.slice ad532 e529.length cap533, .int .i64 0, .int .i64 0])] w ∧ Has [] 258 a [(10, .bool t701)]) ?_ ?_
           ·refine rg (m1 rfl (eqI rfl rfl rfl (m1 rfl ?_)))
            by_cases hb704 : r648.2 = 0
            ·have hr705 := if_p hb704 hx702
             refine gt hb704 rfl (m1 rfl (gt hb704 rfl (lnL U59 rfl rfl (gt hb704 rfl (eqI rfl rfl rfl (pt hb704 rfl rfl (m1 rfl ?_)))))))
             by_cases hb706 : (r648.1.length : Int) = 1
             ·have hr707 := if_p hb706 hr705
              refine gt hb706 rfl (m1 rfl (gt hb706 rfl ?_))
              obtain ⟨x708, hx709, hr710⟩ := bd_some hr707
              obtain ⟨p711, rfl⟩ := hu660.adr hx709
              obtain ⟨cs712, hcs713, hq714, hr715⟩ := hu660.at hx709
              obtain rfl := hr715
              refine iaP U59 Z31 rfl rfl rfl rfl (lt_of hx709) (gt hb706 rfl (ld G31 rfl rfl (sS 0 rfl hq714) rfl (gt hb706 rfl (eqI rfl rfl rfl (gt hb706 rfl (m1 rfl (gt hb706 rfl (eqI rfl rfl rfl (gt hb706 rfl (eqB U4 rfl rfl rfl (pt hb706 rfl rfl ?_)))))))))))
              refine m1 rfl ?_
              rcases Bool.eq_false_or_eq_true (decide (x708 = 0) == decide (r134.1 = 0)) with hb716 | hb716
              ·have hr717 := if_p hb716 hr710
               refine gN rfl rfl (hb716) (m1 rfl (gN rfl rfl (hb716) (iaP U59 Z31 rfl rfl rfl rfl (lt_of hx709) (gN rfl rfl (hb716) (ld G31 rfl rfl (sS 0 rfl hq714) rfl (gN rfl rfl (hb716) (eqI rfl rfl rfl (gN rfl rfl (hb716) (m1 rfl ?_)))))))))
               by_cases hb718 : x708 = 0
               ·have hr719 := if_p hb718 hr717
                refine gf' hb718 rfl (gf' hb718 rfl (gf' hb718 rfl (gf' hb718 rfl (gN rfl rfl (hb716) (pt hb718 rfl rfl (pT rfl rfl (hb716) rfl (m1 rfl (gN rfl rfl rfl ?_))))))))
                obtain ⟨r720, hx721, hr722⟩ := bd_some hr719
                refine clS C17 rfl rfl rfl rfl (fun w H hH le => w17 hH (hg.mono (le.at 21 rfl))  hx721) (pT rfl rfl rfl rfl (a1 rfl (on ?_)))
                cases hr722
                exact cu ⟨rfl, tv⟩
               ·have hr723 := if_n hb718 hr717
                refine gt' hb718 rfl (m1 rfl (gt' hb718 rfl (iaP U59 Z31 rfl rfl rfl rfl (lt_of hx709) (gt' hb718 rfl (ld G31 rfl rfl (sS 0 rfl hq714) rfl (gt' hb718 rfl (eqI rfl rfl rfl (gN rfl rfl (hb716) (pf hb718 rfl rfl (pT rfl rfl (hb716) rfl (m1 rfl ?_)))))))))))
                by_cases hb724 : x708 = 9
                ·have hr725 := if_p hb724 hr723
                 refine gt hb724 rfl ?_
                 obtain ⟨r726, hx727, hr728⟩ := bd_some hr725
                 refine clS C17 rfl rfl rfl rfl (fun w H hH le => w17 hH (hg.mono (le.at 21 rfl))  hx727) (pt hb724 rfl rfl (a1 rfl (on ?_)))
                 cases hr728
                 exact cu ⟨rfl, tv⟩
                ·have hr729 := if_n hb724 hr723
                 refine gf hb724 rfl (pf hb724 rfl rfl (a1 rfl (on ?_)))
                 cases hr729
                 exact cu ⟨rfl, tv⟩
              ·have hr730 := if_f hb716 hr710
               refine gF rfl rfl (hb716) rfl (gF rfl rfl (hb716) rfl (gF rfl rfl (hb716) rfl (gF rfl rfl (hb716) rfl (gF rfl rfl (hb716) rfl (gU rfl rfl rfl (gU rfl rfl rfl (gU rfl rfl rfl (gU rfl rfl rfl (gF rfl rfl (hb716) rfl (pF rfl rfl (hb716) rfl (m1 rfl ?_)))))))))))
               refine gF rfl rfl rfl rfl (pF rfl rfl rfl rfl (a1 rfl (on ?_)))
               cases hr730
               exact cu ⟨rfl, tv⟩
             ·have hr731 := if_n hb706 hr705
              refine gf hb706 rfl (gf hb706 rfl (gf hb706 rfl (gf hb706 rfl (gf hb706 rfl (gf hb706 rfl (gf hb706 rfl (pf hb706 rfl rfl (m1 rfl (gF rfl rfl rfl rfl (gF rfl rfl rfl rfl (gF rfl rfl rfl rfl ?_)))))))))))
              refine gF rfl rfl rfl rfl (gF rfl rfl rfl rfl (gU rfl rfl rfl (gU rfl rfl rfl (gU rfl rfl rfl (gU rfl rfl rfl (gF rfl rfl rfl rfl (pF rfl rfl rfl rfl (m1 rfl (gF rfl rfl rfl rfl (pF rfl rfl rfl rfl (a1 rfl ?_)))))))))))
              refine on ?_
              cases hr731
              exact cu ⟨rfl, tv⟩
            ·have hr732 := if_n hb704 hx702
             refine gf hb704 rfl (gf hb704 rfl (gf hb704 rfl (pf hb704 rfl rfl (m1 rfl (gF rfl rfl rfl rfl (gF rfl rfl rfl rfl (gF rfl rfl rfl rfl (gF rfl rfl rfl rfl (gF rfl rfl rfl rfl (gF rfl rfl rfl rfl (gF rfl rfl rfl rfl ?_)))))))))))
             refine pF rfl rfl rfl rfl (m1 rfl (gF rfl rfl rfl rfl (gF rfl rfl rfl rfl (gF rfl rfl rfl rfl (gF rfl rfl rfl rfl (gF rfl rfl rfl rfl (gU rfl rfl rfl (gU rfl rfl rfl (gU rfl rfl rfl (gU rfl rfl rfl (gF rfl rfl rfl rfl ?_)))))))))))
             refine pF rfl rfl rfl rfl (m1 rfl (gF rfl rfl rfl rfl (pF rfl rfl rfl rfl (a1 rfl (on ?_)))))
             cases hr732
             exact cu ⟨rfl, tv⟩
           ·rintro a w ⟨hS, hA⟩
            refine TG.ap ?_ hS hA
            refine rt_ ?_
            cases hr703
            intro a w hS hA
            refine ret1 hA rfl rfl ?_
            exact ⟨rfl, hS.ext⟩

end T4
