/-
 Walks of functions of layer 4: each call comes to what the model says. Printed by a program of ours.
-/
import Derived.Test.YtelimceikglofaaGreatDoorWalkA
set_option linter.all false
set_option maxHeartbeats 4000000
namespace T4
open Go Go.Proofs Pk
theorem w29 {M : Prop} {W : World} {H : Hp} (hH : H.le (hp W)) (hg : Gv M H) {cs_l_0 : List Value} (l_0 : Lexicon) (h_l_0 : (RLexicon) H cs_l_0 l_0) {ad_swaps : Option Addr} {cap_swaps : Nat} {swaps : List Swap} (h_swaps : Sl (Flat encSwap) 3 H ad_swaps cap_swaps swaps) {cs_r_2 : List Value} (r_2 : Report) (h_r_2 : (RReport) H cs_r_2 r_2) {ad_requests : Option Addr} {cap_requests : Nat} {requests : List Request} (h_requests : Sl (RRequest) 5 H ad_requests cap_requests requests) {r : List Int × Int} (hr : m29 l_0 swaps r_2 requests = some r) : Calls Tryz.prog 29 [.agg cs_l_0.toArray, .slice ad_swaps swaps.length cap_swaps, .agg cs_r_2.toArray, .slice ad_requests requests.length cap_requests].toArray W (RetK M H W (fun v K => ∃ (ad0 : Option Addr) (cap0 : Nat), v = .tuple [.slice ad0 r.1.length cap0, .int .i64 r.2].toArray ∧ Sl (Flat (encI .i64)) 1 K ad0 cap0 r.1)) := by
 have hh_l_0 := h_l_0
 obtain ⟨ad1, cap2, ad4, cap5, ad7, cap8, rfl, hl3, hl6, hl9⟩ := h_l_0
 have := hl3.len
 have := hl6.len
 have := hl9.len
 have := h_swaps.len
 have hh_r_2 := h_r_2
 obtain ⟨ad10, cap11, rfl, hl12⟩ := h_r_2
 have := hl12.len
 have := h_requests.len
 unfold m29 at hr
 refine enterG (M := M) Tryz.func29 rfl Tryz.ntmps29 rfl hH ?_
 refine sq (rg (bI (cs := [.slice ad1 l_0.numbers.length cap2, .slice ad4 l_0.names.length cap5, .slice ad7 l_0.nots.length cap8]) rfl rfl rfl fun q13 K14 hK15 => (bI (cs := [.slice ad10 r_2.words.length cap11, .int .i64 r_2.out, .int .i64 r_2.within]) rfl rfl rfl fun q16 K17 hK18 => (a1 rfl (a1 rfl (on (sq (rg (ldA G36 Z36 rfl rfl (sS 1 rfl hK15) rfl (m1 rfl (ldA G56 Z56 rfl rfl (sS 0 rfl hK18) rfl ?_)))))))))))
 refine m1 rfl ?_
 obtain ⟨t1082, hx1083, hr1084⟩ := bd_some hr
 refine clI C59 Tryz.func59 rfl Tryz.ntmps59 rfl rfl rfl rfl (fun v w => (∃ (t1085 : Int), t1082 = (.inl t1085) ∧ v = .tuple [.pointer none, .int .i64 t1085].toArray ∧ St M W H [K17, K14, H] [] w) ∨ (∃ (t1086 : List Int × List Request × List Said × (List (Bytes × Mark)) × List Swap × List Int), t1082 = (.inr t1086) ∧ ∃ (b1087 : Nat) (ad1088 : Option Addr) (cap1089 : Nat) (ad1090 : Option Addr) (cap1091 : Nat) (css1092 : List (List Value)) (K1093 : Hp) (ad1095 : Option Addr) (cap1096 : Nat) (K1097 : Hp) (mp1099 : Value) (K1100 : Hp) (ad1102 : Option Addr) (cap1103 : Nat) (K1104 : Hp) (ad1106 : Option Addr) (cap1107 : Nat), v = .tuple [.pointer (some (⟨b1087, 0, none⟩)), .int .i64 0].toArray ∧ St M W H [K1093, K1097, K1100, K1104, K17, K14, H] [(8, Own.list ad1088 cap1089 3 1 (encI .i64) t1086.1), (7, Own.rows ad1090 cap1091 63 5 css1092 t1086.2.1), (2, cel b1087 133 [.slice ad1095 t1086.2.2.1.length cap1096, .int .i64 r_2.out, .int .i64 r_2.within, mp1099, .slice ad1102 t1086.2.2.2.2.1.length cap1103, .slice ad1090 t1086.2.1.length cap1091, .slice ad1088 t1086.1.length cap1089, .slice ad1106 t1086.2.2.2.2.2.length cap1107]), (1, Own.list ad1106 cap1107 31 1 (encI .i64) t1086.2.2.2.2.2)] w ∧ Rows (RRequest) 5 K1093 css1092 t1086.2.1 ∧ Sl (Flat encSaid) 2 K1097 ad1095 cap1096 t1086.2.2.1 ∧ Mp keS (fun x => Value.agg (encMark x).toArray) K1100 mp1099 t1086.2.2.2.1 ∧ Sl (Flat encSwap) 3 K1104 ad1102 cap1103 t1086.2.2.2.2.1)) ?_ ?_
 ·refine sq (rg (bI (cs := [.slice ad1 l_0.numbers.length cap2, .slice ad4 l_0.names.length cap5, .slice ad7 l_0.nots.length cap8]) rfl rfl rfl fun q1108 K1109 hK1110 => (bI (cs := [.slice ad10 r_2.words.length cap11, .int .i64 r_2.out, .int .i64 r_2.within]) rfl rfl rfl fun q1111 K1112 hK1113 => (bI (cs := [.slice ad_requests requests.length cap_requests]) rfl rfl rfl fun q1114 K1115 hK1116 => (a1 rfl (a1 rfl (on (sq (rg (ldA G36 Z36 rfl rfl (sS 2 rfl hK1110) rfl (m1 rfl ?_)))))))))))
  obtain ⟨r1117, hx1118, hr1119⟩ := bd_some hx1083
  refine clK C51 rfl rfl rfl rfl (fun w H hH le => w51 hH l_0 (RLexicon.mono _ _ _ _ (le.at 5 rfl) hh_l_0) (h_swaps.mono (Flat.mono _) (le.at 5 rfl)) hx1118) ?_
  rintro v_ K1120 ⟨cs1121, rfl, hr1122⟩
  have hr1123 := hr1122
  obtain ⟨mp1124, ad1126, cap1127, rfl, hm1125, hl1128⟩ := hr1122
  have := hl1128.len
  refine m1 rfl (ex rfl rfl rfl (ex rfl rfl rfl ?_))
  obtain ⟨b1129, rfl⟩ := Mp.isMap hm1125
  refine va (cs := [.map b1129, .slice ad1126 r1117.1.swaps.length cap1127]) Tryz.zeroValue117 Z117 rfl rfl rfl rfl rfl rfl rfl rfl fun q1130 K1131 hK1132 => (a1 rfl (on (sq (sq (rg (m1 rfl (neI rfl rfl rfl (on ?_))))))))
  refine ci rfl (fun hc1136 => ?_) (fun hc1136 => ?_)
  ·have hr1137 := if_p hc1136 hr1119
   refine sq (rg (m1 rfl (a1 rfl (a1 rfl (on (rt_ ?_))))))
   cases hr1137
   intro a w hS hA
   refine ret2 hA rfl rfl rfl ?_
   exact ⟨_, rfl, .inl ⟨_, rfl, rfl, hS.selH [5, 6, 7] rfl⟩⟩
  ·have hr1138 := if_n hc1136 hr1119
   refine sk (sq (sq (rg (ldA G56 Z56 rfl rfl (sS 3 rfl hK1113) rfl ?_))))
   obtain ⟨r1139, hx1140, hr1141⟩ := bd_some hr1138
   refine clS C61 rfl rfl rfl rfl (fun w H hH le => w61 hH r_2 (RReport.mono _ _ _ _ (le.at 7 rfl) hh_r_2) hx1140) (a1 rfl (on (sq (rg (m1 rfl (neI rfl rfl rfl (on ?_)))))))
   refine ci rfl (fun hc1145 => ?_) (fun hc1145 => ?_)
   ·have hr1146 := if_p hc1145 hr1141
    refine sq (rg (m1 rfl (a1 rfl (a1 rfl (on (rt_ ?_))))))
    cases hr1146
    intro a w hS hA
    refine ret2 hA rfl rfl rfl ?_
    exact ⟨_, rfl, .inl ⟨_, rfl, rfl, hS.selH [5, 6, 7] rfl⟩⟩
   ·have hr1147 := if_n hc1145 hr1141
    refine sk (sq (sq (rg (ld G64 rfl rfl (sS 2 rfl hK1116) rfl (lnL U64 rfl rfl (gtI rfl rfl rfl (on ?_)))))))
    refine ci rfl (fun hc1151 => ?_) (fun hc1151 => ?_)
    ·have hr1152 := if_p hc1151 hr1147
     refine sq (rg (a1 rfl (a1 rfl (on (rt_ ?_)))))
     cases hr1152
     intro a w hS hA
     refine ret2 hA rfl rfl rfl ?_
     exact ⟨_, rfl, .inl ⟨_, rfl, rfl, hS.selH [5, 6, 7] rfl⟩⟩
    ·have hr1153 := if_n hc1151 hr1147
     refine sk (sq ?_)
     obtain ⟨hk1154, hr1155⟩ := chk_some hr1153
     have : (List.replicate requests.length (0 : Int)).length = requests.length := List.length_replicate
     refine drG2 5 4 mixed (by kernel_rfl) rfl rfl (DG.detA rfl rfl rfl (fun τ a w K hS hA hF => TG.pa hS hA (ldA G56 Z56 rfl rfl (sS 4 rfl hK1113) rfl fin1)) (DG.detA rfl rfl rfl (fun τ a w K hS hA hF => TG.pa hS hA (ldA G117 Z117 rfl rfl (sS 1 rfl hK1132) rfl fin1)) (DG.det (fun τ => τ = []) rfl rfl (.inr (by kernel_rfl)) (fun _ h => by cases h) rfl rfl (fun τ hτ a w K hS hA hF => by subst hτ <;> exact TG.pa hS hA (ld G64 rfl rfl (sS 3 rfl hK1116) rfl fin1)) (DG.det (fun τ => τ = []) rfl rfl (.inr (by kernel_rfl)) (fun _ h => by cases h) rfl rfl (fun τ hτ a w K hS hA hF => by subst hτ <;> exact TG.pa hS hA (lnL U64 rfl rfl fin1)) (DG.turn (α := Nat) 0 (fun b1156 => .slice (some ⟨b1156, 0, none⟩) ((List.replicate requests.length (0 : Int)).length) requests.length) (fun _ _ => True) (fun b1156 => [(1, Own.list (some ⟨b1156, 0, none⟩) requests.length 31 1 (encI .i64) (List.replicate requests.length (0 : Int)))]) rfl (fun _ _ _ _ h => h) (by kernel_rfl) rfl rfl (fun a w K hS hA hF => TG.pa hS hA (mkL 1 (encI .i64) (0 : Int) T4.E59 rfl rfl rfl rfl rfl rfl rfl hk1154 fun b1156 => finT (f := fun b1156 => .slice (some ⟨b1156, 0, none⟩) ((List.replicate requests.length (0 : Int)).length) requests.length) (G := fun _ _ => True) (σ1 := fun b1156 => [(1, Own.list (some ⟨b1156, 0, none⟩) requests.length 31 1 (encI .i64) (List.replicate requests.length (0 : Int)))]) b1156 tv)) fun b1156 => (DG.nil fun K1157 hF => ?_))))))
     obtain ⟨_, _⟩ := hF
     refine bu (cs := [.slice ad10 r_2.words.length cap11, .int .i64 r_2.out, .int .i64 r_2.within, .map b1129, .slice ad1126 r1117.1.swaps.length cap1127, .slice none 0 0, .slice none 0 0, .slice (some ⟨b1156, 0, none⟩) ((List.replicate requests.length (0 : Int)).length) requests.length]) T4.B133 rfl rfl rfl (bO 2 rfl rfl rfl fun b1158 => (a1 rfl (on (sq (rg (a1 rfl (on (sq (sq (rg (ld G64 rfl rfl (sS 3 rfl hK1116) rfl ?_)))))))))))
     refine lnL U64 rfl rfl (m1 rfl (on (TG.nilRow 4 3 1 (TG.as 4 (z := Own.list none 0 3 1 (encI .i64) ([] : List Int)) rfl rfl ?_))))
     obtain ⟨e1192, hl1193, hr1194⟩ := bd_some hr1155
     refine jn (fun a w => ∃ (ad1195 : Option Addr) (cap1196 : Nat), St M W H [K1157, K1131, K1120, K1115, K1112, K1109, K17, K14, H] [(4, Own.list ad1195 cap1196 3 1 (encI .i64) e1192), (2, cel b1158 133 [.slice ad10 r_2.words.length cap11, .int .i64 r_2.out, .int .i64 r_2.within, .map b1129, .slice ad1126 r1117.1.swaps.length cap1127, .slice none 0 0, .slice none 0 0, .slice (some ⟨b1156, 0, none⟩) ((List.replicate requests.length (0 : Int)).length) requests.length]), (1, Own.list (some ⟨b1156, 0, none⟩) requests.length 31 1 (encI .i64) (List.replicate requests.length (0 : Int)))] w ∧ Has [] 106 a [(7, .pointer (some q1114)), (13, .pointer (some (⟨b1158, 0, none⟩))), (14, .slice ad1195 e1192.length cap1196)]) ?_ ?_
     ·refine bk ?_
      refine lp hl1193 (fun s1197 a w => ∃ (ad1198 : Option Addr) (cap1199 : Nat), St M W H [K1157, K1131, K1120, K1115, K1112, K1109, K17, K14, H] [(4, Own.list ad1198 cap1199 3 1 (encI .i64) s1197.2), (2, cel b1158 133 [.slice ad10 r_2.words.length cap11, .int .i64 r_2.out, .int .i64 r_2.within, .map b1129, .slice ad1126 r1117.1.swaps.length cap1127, .slice none 0 0, .slice none 0 0, .slice (some ⟨b1156, 0, none⟩) ((List.replicate requests.length (0 : Int)).length) requests.length]), (1, Own.list (some ⟨b1156, 0, none⟩) requests.length 31 1 (encI .i64) (List.replicate requests.length (0 : Int)))] w ∧ Has [] 106 a [(7, .pointer (some q1114)), (13, .pointer (some (⟨b1158, 0, none⟩))), (14, .slice ad1198 s1197.2.length cap1199), (43, .int .i64 (requests.length : Int)), (44, .int .i64 (s1197.1 : Int))]) ?_ ?_
      ·intro a w hS hA
       exact ⟨none, 0, hS, hA.cut ⟨rfl, rfl, rfl, rfl, rfl, tv⟩⟩
      ·rintro j s1197 y1202 hr1200 hz1201 a w ⟨ad1198, cap1199, hS, hA⟩
       refine TG.ap ?_ hS hA
       unfold m29_1 at hr1200
       refine sq (rg (ltI rfl rfl rfl (on (sq ?_))))
       refine ci rfl (fun hc1206 => ?_) (fun hc1206 => ?_)
       ·have hr1207 := if_p hc1206 hr1200
        refine sk (sq (bk (sq (rg (m1 rfl (a1 rfl (on (rg (m1 rfl (m1 rfl ?_))))))))))
        obtain ⟨hk1213, hr1214⟩ := chk_some hr1207
        have := lenA s1197.2 [(s1197.1 : Int)]
        refine ap1 4 (encI .i64) (l := s1197.2) (s1197.1 : Int) T4.E86 rfl rfl rfl rfl rfl rfl rfl rfl rfl rfl rfl rfl hk1213 fun ad1215 cap1216 u1217 => (a1 rfl (on (rg (adI rfl rfl rfl (by omega) (m1 rfl (on ?_))))))
        cases hr1214
        intro a w hS hA
        exact ⟨_, hz1201, ad1215, cap1216, hS, hA.cut ⟨rfl, rfl, rfl, rfl, rfl, tv⟩⟩
       ·have hr1218 := if_n hc1206 hr1200
        refine xt rfl ?_
        cases hr1218
        obtain rfl := Fin.out hz1201
        intro a w hS hA
        exact ⟨ad1198, cap1199, hS, hA.cut ⟨rfl, rfl, rfl, tv⟩⟩
     ·rintro a w ⟨ad1195, cap1196, hS, hA⟩
      refine TG.ap ?_ hS hA
      refine sq (rg (m1 rfl (fn rfl rfl rfl ?_)))
      obtain ⟨t1886, hx1887, hr1888⟩ := bd_some hr1194
      refine clI C87 Tryz.func87 rfl Tryz.ntmps87 rfl rfl rfl rfl (fun v w => (v = .tuple #[] ∧ St M W H [K1157, K1131, K1120, K1115, K1112, K1109, K17, K14, H] [(4, Own.list ad1195 cap1196 3 1 (encI .i64) t1886), (2, cel b1158 133 [.slice ad10 r_2.words.length cap11, .int .i64 r_2.out, .int .i64 r_2.within, .map b1129, .slice ad1126 r1117.1.swaps.length cap1127, .slice none 0 0, .slice none 0 0, .slice (some ⟨b1156, 0, none⟩) ((List.replicate requests.length (0 : Int)).length) requests.length]), (1, Own.list (some ⟨b1156, 0, none⟩) requests.length 31 1 (encI .i64) (List.replicate requests.length (0 : Int)))] w ∧ t1886.length = e1192.length)) ?_ ?_
      ·refine rg (m1 rfl (m1 rfl (TG.len 4 rfl fun _ => (lnL U86 rfl rfl (m1 rfl ?_)))))
       obtain ⟨t2553, hx2554, hr2555⟩ := bd_some hx1887
       refine clI C112 Tryz.func112 rfl Tryz.ntmps112 rfl rfl rfl rfl (fun v w => (v = .tuple #[] ∧ St M W H [K1157, K1131, K1120, K1115, K1112, K1109, K17, K14, H] [(4, Own.list ad1195 cap1196 3 1 (encI .i64) t2553), (2, cel b1158 133 [.slice ad10 r_2.words.length cap11, .int .i64 r_2.out, .int .i64 r_2.within, .map b1129, .slice ad1126 r1117.1.swaps.length cap1127, .slice none 0 0, .slice none 0 0, .slice (some ⟨b1156, 0, none⟩) ((List.replicate requests.length (0 : Int)).length) requests.length]), (1, Own.list (some ⟨b1156, 0, none⟩) requests.length 31 1 (encI .i64) (List.replicate requests.length (0 : Int)))] w ∧ t2553.length = e1192.length)) ?_ ?_
       ·refine sq (rg (a1 rfl (on (sq (rg (m1 rfl (a1 rfl (a1 rfl (on (sq ?_))))))))))
        obtain ⟨e2991, hl2992, hr2993⟩ := bd_some hx2554
        refine jn (fun a w => St M W H [K1157, K1131, K1120, K1115, K1112, K1109, K17, K14, H] [(4, Own.list ad1195 cap1196 3 1 (encI .i64) e2991.2), (2, cel b1158 133 [.slice ad10 r_2.words.length cap11, .int .i64 r_2.out, .int .i64 r_2.within, .map b1129, .slice ad1126 r1117.1.swaps.length cap1127, .slice none 0 0, .slice none 0 0, .slice (some ⟨b1156, 0, none⟩) ((List.replicate requests.length (0 : Int)).length) requests.length]), (1, Own.list (some ⟨b1156, 0, none⟩) requests.length 31 1 (encI .i64) (List.replicate requests.length (0 : Int)))] w ∧ Has [] 63 a [(0, .slice ad1195 e1192.length cap1196), (1, .int .i64 (e1192.length : Int)), (2, .func (.func 88) [].toArray [.pointer (some q1114)].toArray), (6, .int .i64 20), (7, .int .i64 (e2991.1 : Int))] ∧ e2991.2.length = e1192.length) ?_ ?_
        ·refine bk ?_
         refine lp hl2992 (fun s2995 a w => St M W H [K1157, K1131, K1120, K1115, K1112, K1109, K17, K14, H] [(4, Own.list ad1195 cap1196 3 1 (encI .i64) s2995.2.2), (2, cel b1158 133 [.slice ad10 r_2.words.length cap11, .int .i64 r_2.out, .int .i64 r_2.within, .map b1129, .slice ad1126 r1117.1.swaps.length cap1127, .slice none 0 0, .slice none 0 0, .slice (some ⟨b1156, 0, none⟩) ((List.replicate requests.length (0 : Int)).length) requests.length]), (1, Own.list (some ⟨b1156, 0, none⟩) requests.length 31 1 (encI .i64) (List.replicate requests.length (0 : Int)))] w ∧ Has [] 63 a [(0, .slice ad1195 e1192.length cap1196), (1, .int .i64 (e1192.length : Int)), (2, .func (.func 88) [].toArray [.pointer (some q1114)].toArray), (6, .int .i64 20), (7, .int .i64 (s2995.1 : Int)), (8, .int .i64 (s2995.2.1 : Int))] ∧ s2995.2.2.length = e1192.length) ?_ ?_
         ·intro a w hS hA
          exact ⟨hS, hA.cut ⟨rfl, rfl, rfl, rfl, rfl, rfl, tv⟩, rfl⟩
         ·rintro j s2995 y2999 hr2997 hz2998 a w ⟨hS, hA, hln2996⟩
          refine TG.ap ?_ hS hA
          unfold m29_2 at hr2997
          refine sq (sq (rg (m1 rfl (m1 rfl (leI rfl rfl rfl (on ?_))))))
          refine ci rfl (fun hc3003 => ?_) (fun hc3003 => ?_)
          ·have hr3004 := if_p hc3003 hr2997
           refine sk (bk (sq (rg (m1 rfl (m1 rfl (m1 rfl (m1 rfl ?_)))))))
           obtain ⟨t3423, hx3424, hr3425⟩ := bd_some hr3004
           refine clI C122 Tryz.func122 rfl Tryz.ntmps122 rfl rfl rfl rfl (fun v w => (v = .tuple #[] ∧ St M W H [K1157, K1131, K1120, K1115, K1112, K1109, K17, K14, H] [(4, Own.list ad1195 cap1196 3 1 (encI .i64) t3423), (2, cel b1158 133 [.slice ad10 r_2.words.length cap11, .int .i64 r_2.out, .int .i64 r_2.within, .map b1129, .slice ad1126 r1117.1.swaps.length cap1127, .slice none 0 0, .slice none 0 0, .slice (some ⟨b1156, 0, none⟩) ((List.replicate requests.length (0 : Int)).length) requests.length]), (1, Own.list (some ⟨b1156, 0, none⟩) requests.length 31 1 (encI .i64) (List.replicate requests.length (0 : Int)))] w ∧ t3423.length = e1192.length)) ?_ ?_
           ·refine sq (rg (m1 rfl ?_))
            obtain ⟨hk3427, hr3428⟩ := chk_some hx3424
            refine adI rfl rfl rfl hk3427 (a1 rfl (on ?_))
            obtain ⟨e3631, hl3632, hr3633⟩ := bd_some hr3428
            refine jn (fun a w => St M W H [K1157, K1131, K1120, K1115, K1112, K1109, K17, K14, H] [(4, Own.list ad1195 cap1196 3 1 (encI .i64) e3631), (2, cel b1158 133 [.slice ad10 r_2.words.length cap11, .int .i64 r_2.out, .int .i64 r_2.within, .map b1129, .slice ad1126 r1117.1.swaps.length cap1127, .slice none 0 0, .slice none 0 0, .slice (some ⟨b1156, 0, none⟩) ((List.replicate requests.length (0 : Int)).length) requests.length]), (1, Own.list (some ⟨b1156, 0, none⟩) requests.length 31 1 (encI .i64) (List.replicate requests.length (0 : Int)))] w ∧ Has [] 53 a [] ∧ e3631.length = e1192.length) ?_ ?_
            ·refine bk ?_
             refine lp hl3632 (fun s3635 a w => St M W H [K1157, K1131, K1120, K1115, K1112, K1109, K17, K14, H] [(4, Own.list ad1195 cap1196 3 1 (encI .i64) s3635.2), (2, cel b1158 133 [.slice ad10 r_2.words.length cap11, .int .i64 r_2.out, .int .i64 r_2.within, .map b1129, .slice ad1126 r1117.1.swaps.length cap1127, .slice none 0 0, .slice none 0 0, .slice (some ⟨b1156, 0, none⟩) ((List.replicate requests.length (0 : Int)).length) requests.length]), (1, Own.list (some ⟨b1156, 0, none⟩) requests.length 31 1 (encI .i64) (List.replicate requests.length (0 : Int)))] w ∧ Has [] 53 a [(0, .slice ad1195 e1192.length cap1196), (1, .int .i64 (s2995.1 : Int)), (2, .int .i64 (s2995.2.1 : Int)), (3, .func (.func 88) [].toArray [.pointer (some q1114)].toArray), (8, .int .i64 (s3635.1 : Int))] ∧ s3635.2.length = e1192.length) ?_ ?_
             ·intro a w hS hA
              exact ⟨hS, hA.cut ⟨rfl, rfl, rfl, rfl, rfl, tv⟩, hln2996⟩
             ·rintro j s3635 y3639 hr3637 hz3638 a w ⟨hS, hA, hln3636⟩
              refine TG.ap ?_ hS hA
              unfold m29_3 at hr3637
              refine sq (sq (rg (m1 rfl (m1 rfl (ltI rfl rfl rfl (on ?_))))))
              refine ci rfl (fun hc3643 => ?_) (fun hc3643 => ?_)
              ·have hr3644 := if_p hc3643 hr3637
               refine sk (sq (bk (sq (rg (m1 rfl (a1 rfl (on ?_)))))))
               obtain ⟨e3831, hl3832, hr3833⟩ := bd_some hr3644
               refine jn (fun a w => St M W H [K1157, K1131, K1120, K1115, K1112, K1109, K17, K14, H] [(4, Own.list ad1195 cap1196 3 1 (encI .i64) e3831), (2, cel b1158 133 [.slice ad10 r_2.words.length cap11, .int .i64 r_2.out, .int .i64 r_2.within, .map b1129, .slice ad1126 r1117.1.swaps.length cap1127, .slice none 0 0, .slice none 0 0, .slice (some ⟨b1156, 0, none⟩) ((List.replicate requests.length (0 : Int)).length) requests.length]), (1, Own.list (some ⟨b1156, 0, none⟩) requests.length 31 1 (encI .i64) (List.replicate requests.length (0 : Int)))] w ∧ Has [] 53 a [(0, .slice ad1195 e1192.length cap1196), (1, .int .i64 (s2995.1 : Int)), (2, .int .i64 (s2995.2.1 : Int)), (3, .func (.func 88) [].toArray [.pointer (some q1114)].toArray), (8, .int .i64 (s3635.1 : Int))] ∧ e3831.length = e1192.length) ?_ ?_
               ·refine bk ?_
                refine lp hl3832 (fun s3835 a w => St M W H [K1157, K1131, K1120, K1115, K1112, K1109, K17, K14, H] [(4, Own.list ad1195 cap1196 3 1 (encI .i64) s3835.2), (2, cel b1158 133 [.slice ad10 r_2.words.length cap11, .int .i64 r_2.out, .int .i64 r_2.within, .map b1129, .slice ad1126 r1117.1.swaps.length cap1127, .slice none 0 0, .slice none 0 0, .slice (some ⟨b1156, 0, none⟩) ((List.replicate requests.length (0 : Int)).length) requests.length]), (1, Own.list (some ⟨b1156, 0, none⟩) requests.length 31 1 (encI .i64) (List.replicate requests.length (0 : Int)))] w ∧ Has [] 53 a [(0, .slice ad1195 e1192.length cap1196), (1, .int .i64 (s2995.1 : Int)), (2, .int .i64 (s2995.2.1 : Int)), (3, .func (.func 88) [].toArray [.pointer (some q1114)].toArray), (8, .int .i64 (s3635.1 : Int)), (9, .int .i64 s3835.1)] ∧ s3835.2.length = e1192.length) ?_ ?_
                ·intro a w hS hA
                 exact ⟨hS, hA.cut ⟨rfl, rfl, rfl, rfl, rfl, rfl, tv⟩, hln3636⟩
                ·rintro j s3835 y3839 hr3837 hz3838 a w ⟨hS, hA, hln3836⟩
                 refine TG.ap ?_ hS hA
                 unfold m29_4 at hr3837
                 refine sq (sq ?_)
                 obtain ⟨t3861, hx3862, hr3863⟩ := bd_some hr3837
                 refine jn (fun a w => St M W H [K1157, K1131, K1120, K1115, K1112, K1109, K17, K14, H] [(4, Own.list ad1195 cap1196 3 1 (encI .i64) s3835.2), (2, cel b1158 133 [.slice ad10 r_2.words.length cap11, .int .i64 r_2.out, .int .i64 r_2.within, .map b1129, .slice ad1126 r1117.1.swaps.length cap1127, .slice none 0 0, .slice none 0 0, .slice (some ⟨b1156, 0, none⟩) ((List.replicate requests.length (0 : Int)).length) requests.length]), (1, Own.list (some ⟨b1156, 0, none⟩) requests.length 31 1 (encI .i64) (List.replicate requests.length (0 : Int)))] w ∧ Has [] 53 a [(0, .slice ad1195 e1192.length cap1196), (1, .int .i64 (s2995.1 : Int)), (2, .int .i64 (s2995.2.1 : Int)), (3, .func (.func 88) [].toArray [.pointer (some q1114)].toArray), (8, .int .i64 (s3635.1 : Int)), (9, .int .i64 s3835.1), (34, .bool t3861)]) ?_ ?_
                 ·by_cases hb3864 : (s2995.1 : Int) < s3835.1
                  ·have hr3865 := if_p hb3864 hx3862
                   obtain ⟨hk3866, hr3867⟩ := chk_some hr3865
                   obtain ⟨x3868, hx3869, hr3870⟩ := bd_some hr3867
                   refine TG.addr 4 rfl (lt_of0 hx3869) fun b3871 h => ?_; subst h
                   obtain ⟨hk3872, hr3873⟩ := chk_some hr3870
                   obtain ⟨hk3874, hr3875⟩ := chk_some hr3873
                   obtain ⟨x3876, hx3877, hr3878⟩ := bd_some hr3875
                   refine drG 14 mixed (by kernel_rfl) rfl (dt rfl (m1 rfl fin1) (dt rfl (m1 rfl fin1) (dt rfl (gtI rfl rfl rfl fin1) (dt rfl (m1 rfl fin1) (dt rfl (gt hb3864 rfl (m1 rfl fin1)) (dt rfl (gt hb3864 rfl (m1 rfl fin1)) (dt rfl (gt hb3864 rfl (m1 rfl fin1)) (dt rfl (gt hb3864 rfl (iaP U86 Z3 rfl rfl rfl (by omega) (Nat.lt_of_lt_of_eq (lt_of hx3869) hln3836) fin1)) (dt rfl (gt hb3864 rfl (ld G3 rfl rfl (sE 4 rfl (fun _ => rfl) hx3869) rfl fin1)) (dt rfl (gt hb3864 rfl (m1 rfl fin1)) (dt rfl (gt hb3864 rfl (m1 rfl fin1)) ?_)))))))))))
                   refine dt rfl (gt hb3864 rfl (sbI rfl rfl rfl hk3872 fin1)) (dt rfl (gt hb3864 rfl (iaP U86 Z3 rfl rfl rfl (by omega) (Nat.lt_of_lt_of_eq (lt_of hx3877) hln3836) fin1)) (dt rfl (gt hb3864 rfl (ld G3 rfl rfl (sE 4 rfl (fun _ => rfl) hx3877) rfl fin1)) (DF.nil fun K3879 hF => (gt hb3864 rfl ?_))))
                   obtain ⟨r3880, hx3881, hr3882⟩ := bd_some hr3878
                   refine clS C88 rfl rfl rfl rfl (fun w H hH le => w88 hH x3868 x3876 (f0_ := requests) (hK1116.mono (le.at 4 rfl)) (h_requests.mono (RRequest.mono) (le.at 9 rfl)) hx3881) (gt hb3864 rfl (ltI rfl rfl rfl (pt hb3864 rfl rfl (on ?_))))
                   cases hr3882
                   intro a w hS hA
                   exact ⟨hS.selH [1, 2, 3, 4, 5, 6, 7, 8, 9] rfl, hA.cut ⟨rfl, rfl, rfl, rfl, rfl, rfl, rfl, tv⟩⟩
                  ·have hr3883 := if_n hb3864 hx3862
                   refine drG 14 mixed (by kernel_rfl) rfl (dt rfl (m1 rfl fin1) (dt rfl (m1 rfl fin1) (dt rfl (gtI rfl rfl rfl fin1) (dt rfl (m1 rfl fin1) (dt rfl (gf hb3864 rfl fin1) (dt rfl (gf hb3864 rfl fin1) (dt rfl (gf hb3864 rfl fin1) (dt rfl (gf hb3864 rfl fin1) (dt rfl (gf hb3864 rfl fin1) (dt rfl (gf hb3864 rfl fin1) (dt rfl (gf hb3864 rfl fin1) ?_)))))))))))
                   refine dt rfl (gf hb3864 rfl fin1) (dt rfl (gf hb3864 rfl fin1) (dt rfl (gf hb3864 rfl fin1) (DF.nil fun K3884 hF => (gf hb3864 rfl (gf hb3864 rfl (pf hb3864 rfl rfl (on ?_)))))))
                   cases hr3883
                   intro a w hS hA
                   exact ⟨hS.selH [1, 2, 3, 4, 5, 6, 7, 8, 9] rfl, hA.cut ⟨rfl, rfl, rfl, rfl, rfl, rfl, rfl, tv⟩⟩
                 ·rintro a w ⟨hS, hA⟩
                  refine TG.ap ?_ hS hA
                  refine cb rfl (fun hc3888 => ?_) (fun hc3888 => ?_)
                  ·have hr3889 := if_p hc3888 hr3863
                   refine sk (sq (bk ?_))
                   obtain ⟨hk3909, hr3910⟩ := chk_some hr3889
                   obtain ⟨hk3911, hr3912⟩ := chk_some hr3910
                   obtain ⟨x3913, hx3914, hr3915⟩ := bd_some hr3912
                   refine TG.addr 4 rfl (lt_of0 hx3914) fun b3916 h => ?_; subst h
                   obtain ⟨hk3917, hr3918⟩ := chk_some hr3915
                   obtain ⟨x3919, hx3920, hr3921⟩ := bd_some hr3918
                   refine drG3 14 [] [(2, 39, .slice (some ⟨b3916, 0, none⟩) e1192.length cap1196), (3, 40, .int .i64 s3835.1), (4, 41, .int .i64 (s3835.1 - 1))] mixed (fun _ _ _ _ _ h => h) (by kernel_rfl) (by kernel_rfl) (by kernel_rfl) rfl (by kernel_rfl) (.cons rfl rfl rfl (fun _ => rfl) (by kernel_rfl) (by kernel_rfl) (fun _ _ => rfl) (mvY rfl) (.cons rfl rfl rfl (fun _ => rfl) (by kernel_rfl) (by kernel_rfl) (fun _ _ => rfl) (mvY rfl) (.cons rfl rfl rfl (fun _ => rfl) (by kernel_rfl) (by kernel_rfl) (fun _ _ => rfl) (sbIY rfl rfl hk3909) (.nil)))) (dc rfl (by kernel_rfl) tv rfl rfl (m1 rfl fin1) (dc rfl (by kernel_rfl) tv rfl rfl (m1 rfl fin1) (DC.pre (.head _) rfl (DC.pre (.tail _ (.head _)) rfl (DC.pre (.tail _ (.tail _ (.head _))) rfl (dc rfl (by kernel_rfl) tv rfl rfl (m1 rfl fin1) (dc rfl (by kernel_rfl) tv rfl rfl (m1 rfl fin1) (dc rfl (by kernel_rfl) tv rfl rfl (sbI rfl rfl rfl hk3909 fin1) (dc rfl (by kernel_rfl) tv rfl rfl (iaP U86 Z3 rfl rfl rfl (by omega) (Nat.lt_of_lt_of_eq (lt_of hx3914) hln3836) fin1) (dc rfl (by kernel_rfl) tv rfl rfl (ld G3 rfl rfl (sE 4 rfl (fun _ => rfl) hx3914) rfl fin1) (dc rfl (by kernel_rfl) tv rfl rfl (m1 rfl fin1) ?_)))))))))))
                   refine dc rfl (by kernel_rfl) tv rfl rfl (m1 rfl fin1) (dc rfl (by kernel_rfl) tv rfl rfl (iaP U86 Z3 rfl rfl rfl (by omega) (Nat.lt_of_lt_of_eq (lt_of hx3920) hln3836) fin1) (dc rfl (by kernel_rfl) tv rfl rfl (ld G3 rfl rfl (sE 4 rfl (fun _ => rfl) hx3920) rfl fin1) (DC.nil fun K3922 hF => (iaP U86 Z3 rfl rfl rfl (by omega) (Nat.lt_of_lt_of_eq (lt_of hx3920) hln3836) ?_))))
                   have hln3923 : (s3835.2.set s3835.1.toNat x3913).length = e1192.length := (lenS _ _ _).trans hln3836
                   refine stE 4 x3913 (q := ⟨b3916, 0, none⟩) (j := s3835.1.toNat) (size := 1) (cs := [.int .i64 x3913]) (off := 0) Z3 rfl rfl rfl (fun _ => rfl) hx3920 rfl rfl rfl rfl rfl ?_
                   obtain ⟨x3924, hx3925, hr3926⟩ := bd_some hr3921
                   refine iaP U86 Z3 rfl rfl rfl (by omega) (Nat.lt_of_lt_of_eq (lt_of hx3925) hln3923) ?_
                   have hln3927 : ((s3835.2.set s3835.1.toNat x3913).set ((s3835.1 - 1).toNat) x3919).length = e1192.length := (lenS _ _ _).trans hln3923
                   refine stE 4 x3919 (q := ⟨b3916, 0, none⟩) (j := (s3835.1 - 1).toNat) (size := 1) (cs := [.int .i64 x3919]) (off := 0) Z3 rfl rfl rfl (fun _ => rfl) hx3925 rfl rfl rfl rfl rfl (on (rg (m1 rfl (sbI rfl rfl rfl hk3909 (a1 rfl (on ?_))))))
                   cases hr3926
                   intro a w hS hA
                   exact ⟨_, hz3838, hS.selH [1, 2, 3, 4, 5, 6, 7, 8, 9] rfl, hA.cut ⟨rfl, rfl, rfl, rfl, rfl, rfl, tv⟩, hln3927⟩
                  ·have hr3928 := if_f hc3888 hr3863
                   refine xt rfl ?_
                   cases hr3928
                   obtain rfl := Fin.out hz3838
                   intro a w hS hA
                   exact ⟨hS, hA.cut ⟨rfl, rfl, rfl, rfl, rfl, tv⟩, hln3836⟩
               ·rintro a w ⟨hS, hA, hln3834⟩
                refine TG.ap ?_ hS hA
                refine rg (m1 rfl ?_)
                obtain ⟨hk3929, hr3930⟩ := chk_some hr3833
                refine adI rfl rfl rfl hk3929 (a1 rfl (on ?_))
                cases hr3930
                intro a w hS hA
                exact ⟨_, hz3638, hS, hA.cut ⟨rfl, rfl, rfl, rfl, rfl, tv⟩, hln3834⟩
              ·have hr3931 := if_n hc3643 hr3637
               refine xt rfl ?_
               cases hr3931
               obtain rfl := Fin.out hz3638
               intro a w hS hA
               exact ⟨hS, hA.cut tv, hln3636⟩
            ·rintro a w ⟨hS, hA, hln3634⟩
             refine TG.ap ?_ hS hA
             cases hr3633
             intro a w hS hA
             refine ret0 hA rfl ?_
             exact ⟨_, rfl, ⟨rfl, hS, hln3634⟩⟩
           ·rintro a w v hA (⟨rfl, hS, hln3426⟩)
            refine putK rfl hA hS (on (sq (rg (m1 rfl (a1 rfl (on (rg (m1 rfl (m1 rfl ?_)))))))))
            obtain ⟨hk3932, hr3933⟩ := chk_some hr3425
            refine adI rfl rfl rfl hk3932 (a1 rfl (on ?_))
            cases hr3933
            intro a w hS hA
            exact ⟨_, hz2998, hS, hA.cut ⟨rfl, rfl, rfl, rfl, rfl, rfl, tv⟩, hln3426⟩
          ·have hr3934 := if_n hc3003 hr2997
           refine xt rfl ?_
           cases hr3934
           obtain rfl := Fin.out hz2998
           intro a w hS hA
           exact ⟨hS, hA.cut ⟨rfl, rfl, rfl, rfl, rfl, tv⟩, hln2996⟩
        ·rintro a w ⟨hS, hA, hln2994⟩
         refine TG.ap ?_ hS hA
         refine sq (rg (m1 rfl (m1 rfl (m1 rfl (m1 rfl ?_)))))
         obtain ⟨t4137, hx4138, hr4139⟩ := bd_some hr2993
         refine clI C122 Tryz.func122 rfl Tryz.ntmps122 rfl rfl rfl rfl (fun v w => (v = .tuple #[] ∧ St M W H [K1157, K1131, K1120, K1115, K1112, K1109, K17, K14, H] [(4, Own.list ad1195 cap1196 3 1 (encI .i64) t4137), (2, cel b1158 133 [.slice ad10 r_2.words.length cap11, .int .i64 r_2.out, .int .i64 r_2.within, .map b1129, .slice ad1126 r1117.1.swaps.length cap1127, .slice none 0 0, .slice none 0 0, .slice (some ⟨b1156, 0, none⟩) ((List.replicate requests.length (0 : Int)).length) requests.length]), (1, Own.list (some ⟨b1156, 0, none⟩) requests.length 31 1 (encI .i64) (List.replicate requests.length (0 : Int)))] w ∧ t4137.length = e1192.length)) ?_ ?_
         ·refine sq (rg (m1 rfl ?_))
          obtain ⟨hk4141, hr4142⟩ := chk_some hx4138
          refine adI rfl rfl rfl hk4141 (a1 rfl (on ?_))
          obtain ⟨e4341, hl4342, hr4343⟩ := bd_some hr4142
          refine jn (fun a w => St M W H [K1157, K1131, K1120, K1115, K1112, K1109, K17, K14, H] [(4, Own.list ad1195 cap1196 3 1 (encI .i64) e4341), (2, cel b1158 133 [.slice ad10 r_2.words.length cap11, .int .i64 r_2.out, .int .i64 r_2.within, .map b1129, .slice ad1126 r1117.1.swaps.length cap1127, .slice none 0 0, .slice none 0 0, .slice (some ⟨b1156, 0, none⟩) ((List.replicate requests.length (0 : Int)).length) requests.length]), (1, Own.list (some ⟨b1156, 0, none⟩) requests.length 31 1 (encI .i64) (List.replicate requests.length (0 : Int)))] w ∧ Has [] 53 a [] ∧ e4341.length = e1192.length) ?_ ?_
          ·refine bk ?_
           refine lp hl4342 (fun s4345 a w => St M W H [K1157, K1131, K1120, K1115, K1112, K1109, K17, K14, H] [(4, Own.list ad1195 cap1196 3 1 (encI .i64) s4345.2), (2, cel b1158 133 [.slice ad10 r_2.words.length cap11, .int .i64 r_2.out, .int .i64 r_2.within, .map b1129, .slice ad1126 r1117.1.swaps.length cap1127, .slice none 0 0, .slice none 0 0, .slice (some ⟨b1156, 0, none⟩) ((List.replicate requests.length (0 : Int)).length) requests.length]), (1, Own.list (some ⟨b1156, 0, none⟩) requests.length 31 1 (encI .i64) (List.replicate requests.length (0 : Int)))] w ∧ Has [] 53 a [(0, .slice ad1195 e1192.length cap1196), (1, .int .i64 (e2991.1 : Int)), (2, .int .i64 (e1192.length : Int)), (3, .func (.func 88) [].toArray [.pointer (some q1114)].toArray), (8, .int .i64 (s4345.1 : Int))] ∧ s4345.2.length = e1192.length) ?_ ?_
           ·intro a w hS hA
            exact ⟨hS, hA.cut ⟨rfl, rfl, rfl, rfl, rfl, tv⟩, hln2994⟩
           ·rintro j s4345 y4349 hr4347 hz4348 a w ⟨hS, hA, hln4346⟩
            refine TG.ap ?_ hS hA
            unfold m29_5 at hr4347
            refine sq (sq (rg (m1 rfl (m1 rfl (ltI rfl rfl rfl (on ?_))))))
            refine ci rfl (fun hc4353 => ?_) (fun hc4353 => ?_)
            ·have hr4354 := if_p hc4353 hr4347
             refine sk (sq (bk (sq (rg (m1 rfl (a1 rfl (on ?_)))))))
             obtain ⟨e4541, hl4542, hr4543⟩ := bd_some hr4354
             refine jn (fun a w => St M W H [K1157, K1131, K1120, K1115, K1112, K1109, K17, K14, H] [(4, Own.list ad1195 cap1196 3 1 (encI .i64) e4541), (2, cel b1158 133 [.slice ad10 r_2.words.length cap11, .int .i64 r_2.out, .int .i64 r_2.within, .map b1129, .slice ad1126 r1117.1.swaps.length cap1127, .slice none 0 0, .slice none 0 0, .slice (some ⟨b1156, 0, none⟩) ((List.replicate requests.length (0 : Int)).length) requests.length]), (1, Own.list (some ⟨b1156, 0, none⟩) requests.length 31 1 (encI .i64) (List.replicate requests.length (0 : Int)))] w ∧ Has [] 53 a [(0, .slice ad1195 e1192.length cap1196), (1, .int .i64 (e2991.1 : Int)), (2, .int .i64 (e1192.length : Int)), (3, .func (.func 88) [].toArray [.pointer (some q1114)].toArray), (8, .int .i64 (s4345.1 : Int))] ∧ e4541.length = e1192.length) ?_ ?_
             ·refine bk ?_
              refine lp hl4542 (fun s4545 a w => St M W H [K1157, K1131, K1120, K1115, K1112, K1109, K17, K14, H] [(4, Own.list ad1195 cap1196 3 1 (encI .i64) s4545.2), (2, cel b1158 133 [.slice ad10 r_2.words.length cap11, .int .i64 r_2.out, .int .i64 r_2.within, .map b1129, .slice ad1126 r1117.1.swaps.length cap1127, .slice none 0 0, .slice none 0 0, .slice (some ⟨b1156, 0, none⟩) ((List.replicate requests.length (0 : Int)).length) requests.length]), (1, Own.list (some ⟨b1156, 0, none⟩) requests.length 31 1 (encI .i64) (List.replicate requests.length (0 : Int)))] w ∧ Has [] 53 a [(0, .slice ad1195 e1192.length cap1196), (1, .int .i64 (e2991.1 : Int)), (2, .int .i64 (e1192.length : Int)), (3, .func (.func 88) [].toArray [.pointer (some q1114)].toArray), (8, .int .i64 (s4345.1 : Int)), (9, .int .i64 s4545.1)] ∧ s4545.2.length = e1192.length) ?_ ?_
              ·intro a w hS hA
               exact ⟨hS, hA.cut ⟨rfl, rfl, rfl, rfl, rfl, rfl, tv⟩, hln4346⟩
              ·rintro j s4545 y4549 hr4547 hz4548 a w ⟨hS, hA, hln4546⟩
               refine TG.ap ?_ hS hA
               unfold m29_6 at hr4547
               refine sq (sq ?_)
               obtain ⟨t4571, hx4572, hr4573⟩ := bd_some hr4547
               refine jn (fun a w => St M W H [K1157, K1131, K1120, K1115, K1112, K1109, K17, K14, H] [(4, Own.list ad1195 cap1196 3 1 (encI .i64) s4545.2), (2, cel b1158 133 [.slice ad10 r_2.words.length cap11, .int .i64 r_2.out, .int .i64 r_2.within, .map b1129, .slice ad1126 r1117.1.swaps.length cap1127, .slice none 0 0, .slice none 0 0, .slice (some ⟨b1156, 0, none⟩) ((List.replicate requests.length (0 : Int)).length) requests.length]), (1, Own.list (some ⟨b1156, 0, none⟩) requests.length 31 1 (encI .i64) (List.replicate requests.length (0 : Int)))] w ∧ Has [] 53 a [(0, .slice ad1195 e1192.length cap1196), (1, .int .i64 (e2991.1 : Int)), (2, .int .i64 (e1192.length : Int)), (3, .func (.func 88) [].toArray [.pointer (some q1114)].toArray), (8, .int .i64 (s4345.1 : Int)), (9, .int .i64 s4545.1), (34, .bool t4571)]) ?_ ?_
               ·by_cases hb4574 : (e2991.1 : Int) < s4545.1
                ·have hr4575 := if_p hb4574 hx4572
                 obtain ⟨hk4576, hr4577⟩ := chk_some hr4575
                 obtain ⟨x4578, hx4579, hr4580⟩ := bd_some hr4577
                 refine TG.addr 4 rfl (lt_of0 hx4579) fun b4581 h => ?_; subst h
                 obtain ⟨hk4582, hr4583⟩ := chk_some hr4580
                 obtain ⟨hk4584, hr4585⟩ := chk_some hr4583
                 obtain ⟨x4586, hx4587, hr4588⟩ := bd_some hr4585
                 refine drG 14 mixed (by kernel_rfl) rfl (dt rfl (m1 rfl fin1) (dt rfl (m1 rfl fin1) (dt rfl (gtI rfl rfl rfl fin1) (dt rfl (m1 rfl fin1) (dt rfl (gt hb4574 rfl (m1 rfl fin1)) (dt rfl (gt hb4574 rfl (m1 rfl fin1)) (dt rfl (gt hb4574 rfl (m1 rfl fin1)) (dt rfl (gt hb4574 rfl (iaP U86 Z3 rfl rfl rfl (by omega) (Nat.lt_of_lt_of_eq (lt_of hx4579) hln4546) fin1)) (dt rfl (gt hb4574 rfl (ld G3 rfl rfl (sE 4 rfl (fun _ => rfl) hx4579) rfl fin1)) (dt rfl (gt hb4574 rfl (m1 rfl fin1)) (dt rfl (gt hb4574 rfl (m1 rfl fin1)) ?_)))))))))))
                 refine dt rfl (gt hb4574 rfl (sbI rfl rfl rfl hk4582 fin1)) (dt rfl (gt hb4574 rfl (iaP U86 Z3 rfl rfl rfl (by omega) (Nat.lt_of_lt_of_eq (lt_of hx4587) hln4546) fin1)) (dt rfl (gt hb4574 rfl (ld G3 rfl rfl (sE 4 rfl (fun _ => rfl) hx4587) rfl fin1)) (DF.nil fun K4589 hF => (gt hb4574 rfl ?_))))
                 obtain ⟨r4590, hx4591, hr4592⟩ := bd_some hr4588
                 refine clS C88 rfl rfl rfl rfl (fun w H hH le => w88 hH x4578 x4586 (f0_ := requests) (hK1116.mono (le.at 4 rfl)) (h_requests.mono (RRequest.mono) (le.at 9 rfl)) hx4591) (gt hb4574 rfl (ltI rfl rfl rfl (pt hb4574 rfl rfl (on ?_))))
                 cases hr4592
                 intro a w hS hA
                 exact ⟨hS.selH [1, 2, 3, 4, 5, 6, 7, 8, 9] rfl, hA.cut ⟨rfl, rfl, rfl, rfl, rfl, rfl, rfl, tv⟩⟩
                ·have hr4593 := if_n hb4574 hx4572
                 refine drG 14 mixed (by kernel_rfl) rfl (dt rfl (m1 rfl fin1) (dt rfl (m1 rfl fin1) (dt rfl (gtI rfl rfl rfl fin1) (dt rfl (m1 rfl fin1) (dt rfl (gf hb4574 rfl fin1) (dt rfl (gf hb4574 rfl fin1) (dt rfl (gf hb4574 rfl fin1) (dt rfl (gf hb4574 rfl fin1) (dt rfl (gf hb4574 rfl fin1) (dt rfl (gf hb4574 rfl fin1) (dt rfl (gf hb4574 rfl fin1) ?_)))))))))))
                 refine dt rfl (gf hb4574 rfl fin1) (dt rfl (gf hb4574 rfl fin1) (dt rfl (gf hb4574 rfl fin1) (DF.nil fun K4594 hF => (gf hb4574 rfl (gf hb4574 rfl (pf hb4574 rfl rfl (on ?_)))))))
                 cases hr4593
                 intro a w hS hA
                 exact ⟨hS.selH [1, 2, 3, 4, 5, 6, 7, 8, 9] rfl, hA.cut ⟨rfl, rfl, rfl, rfl, rfl, rfl, rfl, tv⟩⟩
               ·rintro a w ⟨hS, hA⟩
                refine TG.ap ?_ hS hA
                refine cb rfl (fun hc4598 => ?_) (fun hc4598 => ?_)
                ·have hr4599 := if_p hc4598 hr4573
                 refine sk (sq (bk ?_))
                 obtain ⟨hk4619, hr4620⟩ := chk_some hr4599
                 obtain ⟨hk4621, hr4622⟩ := chk_some hr4620
                 obtain ⟨x4623, hx4624, hr4625⟩ := bd_some hr4622
                 refine TG.addr 4 rfl (lt_of0 hx4624) fun b4626 h => ?_; subst h
                 obtain ⟨hk4627, hr4628⟩ := chk_some hr4625
                 obtain ⟨x4629, hx4630, hr4631⟩ := bd_some hr4628
                 refine drG3 14 [] [(2, 39, .slice (some ⟨b4626, 0, none⟩) e1192.length cap1196), (3, 40, .int .i64 s4545.1), (4, 41, .int .i64 (s4545.1 - 1))] mixed (fun _ _ _ _ _ h => h) (by kernel_rfl) (by kernel_rfl) (by kernel_rfl) rfl (by kernel_rfl) (.cons rfl rfl rfl (fun _ => rfl) (by kernel_rfl) (by kernel_rfl) (fun _ _ => rfl) (mvY rfl) (.cons rfl rfl rfl (fun _ => rfl) (by kernel_rfl) (by kernel_rfl) (fun _ _ => rfl) (mvY rfl) (.cons rfl rfl rfl (fun _ => rfl) (by kernel_rfl) (by kernel_rfl) (fun _ _ => rfl) (sbIY rfl rfl hk4619) (.nil)))) (dc rfl (by kernel_rfl) tv rfl rfl (m1 rfl fin1) (dc rfl (by kernel_rfl) tv rfl rfl (m1 rfl fin1) (DC.pre (.head _) rfl (DC.pre (.tail _ (.head _)) rfl (DC.pre (.tail _ (.tail _ (.head _))) rfl (dc rfl (by kernel_rfl) tv rfl rfl (m1 rfl fin1) (dc rfl (by kernel_rfl) tv rfl rfl (m1 rfl fin1) (dc rfl (by kernel_rfl) tv rfl rfl (sbI rfl rfl rfl hk4619 fin1) (dc rfl (by kernel_rfl) tv rfl rfl (iaP U86 Z3 rfl rfl rfl (by omega) (Nat.lt_of_lt_of_eq (lt_of hx4624) hln4546) fin1) (dc rfl (by kernel_rfl) tv rfl rfl (ld G3 rfl rfl (sE 4 rfl (fun _ => rfl) hx4624) rfl fin1) (dc rfl (by kernel_rfl) tv rfl rfl (m1 rfl fin1) ?_)))))))))))
                 refine dc rfl (by kernel_rfl) tv rfl rfl (m1 rfl fin1) (dc rfl (by kernel_rfl) tv rfl rfl (iaP U86 Z3 rfl rfl rfl (by omega) (Nat.lt_of_lt_of_eq (lt_of hx4630) hln4546) fin1) (dc rfl (by kernel_rfl) tv rfl rfl (ld G3 rfl rfl (sE 4 rfl (fun _ => rfl) hx4630) rfl fin1) (DC.nil fun K4632 hF => (iaP U86 Z3 rfl rfl rfl (by omega) (Nat.lt_of_lt_of_eq (lt_of hx4630) hln4546) ?_))))
                 have hln4633 : (s4545.2.set s4545.1.toNat x4623).length = e1192.length := (lenS _ _ _).trans hln4546
                 refine stE 4 x4623 (q := ⟨b4626, 0, none⟩) (j := s4545.1.toNat) (size := 1) (cs := [.int .i64 x4623]) (off := 0) Z3 rfl rfl rfl (fun _ => rfl) hx4630 rfl rfl rfl rfl rfl ?_
                 obtain ⟨x4634, hx4635, hr4636⟩ := bd_some hr4631
                 refine iaP U86 Z3 rfl rfl rfl (by omega) (Nat.lt_of_lt_of_eq (lt_of hx4635) hln4633) ?_
                 have hln4637 : ((s4545.2.set s4545.1.toNat x4623).set ((s4545.1 - 1).toNat) x4629).length = e1192.length := (lenS _ _ _).trans hln4633
                 refine stE 4 x4629 (q := ⟨b4626, 0, none⟩) (j := (s4545.1 - 1).toNat) (size := 1) (cs := [.int .i64 x4629]) (off := 0) Z3 rfl rfl rfl (fun _ => rfl) hx4635 rfl rfl rfl rfl rfl (on (rg (m1 rfl (sbI rfl rfl rfl hk4619 (a1 rfl (on ?_))))))
                 cases hr4636
                 intro a w hS hA
                 exact ⟨_, hz4548, hS.selH [1, 2, 3, 4, 5, 6, 7, 8, 9] rfl, hA.cut ⟨rfl, rfl, rfl, rfl, rfl, rfl, tv⟩, hln4637⟩
                ·have hr4638 := if_f hc4598 hr4573
                 refine xt rfl ?_
                 cases hr4638
                 obtain rfl := Fin.out hz4548
                 intro a w hS hA
                 exact ⟨hS, hA.cut ⟨rfl, rfl, rfl, rfl, rfl, tv⟩, hln4546⟩
             ·rintro a w ⟨hS, hA, hln4544⟩
              refine TG.ap ?_ hS hA
              refine rg (m1 rfl (adI rfl rfl rfl (by omega) (a1 rfl (on ?_))))
              cases hr4543
              intro a w hS hA
              exact ⟨_, hz4348, hS, hA.cut ⟨rfl, rfl, rfl, rfl, rfl, tv⟩, hln4544⟩
            ·have hr4639 := if_n hc4353 hr4347
             refine xt rfl ?_
             cases hr4639
             obtain rfl := Fin.out hz4348
             intro a w hS hA
             exact ⟨hS, hA.cut tv, hln4346⟩
          ·rintro a w ⟨hS, hA, hln4344⟩
           refine TG.ap ?_ hS hA
           cases hr4343
           intro a w hS hA
           refine ret0 hA rfl ?_
           exact ⟨_, rfl, ⟨rfl, hS, hln4344⟩⟩
         ·rintro a w v hA (⟨rfl, hS, hln4140⟩)
          refine putK rfl hA hS (on ?_)
          obtain ⟨e4660, hl4661, hr4662⟩ := bd_some hr4139
          refine jn (fun a w => St M W H [K1157, K1131, K1120, K1115, K1112, K1109, K17, K14, H] [(4, Own.list ad1195 cap1196 3 1 (encI .i64) t4137), (2, cel b1158 133 [.slice ad10 r_2.words.length cap11, .int .i64 r_2.out, .int .i64 r_2.within, .map b1129, .slice ad1126 r1117.1.swaps.length cap1127, .slice none 0 0, .slice none 0 0, .slice (some ⟨b1156, 0, none⟩) ((List.replicate requests.length (0 : Int)).length) requests.length]), (1, Own.list (some ⟨b1156, 0, none⟩) requests.length 31 1 (encI .i64) (List.replicate requests.length (0 : Int)))] w ∧ Has [] 63 a []) ?_ ?_
          ·refine bk ?_
           refine lp hl4661 (fun s4663 a w => St M W H [K1157, K1131, K1120, K1115, K1112, K1109, K17, K14, H] [(4, Own.list ad1195 cap1196 3 1 (encI .i64) t4137), (2, cel b1158 133 [.slice ad10 r_2.words.length cap11, .int .i64 r_2.out, .int .i64 r_2.within, .map b1129, .slice ad1126 r1117.1.swaps.length cap1127, .slice none 0 0, .slice none 0 0, .slice (some ⟨b1156, 0, none⟩) ((List.replicate requests.length (0 : Int)).length) requests.length]), (1, Own.list (some ⟨b1156, 0, none⟩) requests.length 31 1 (encI .i64) (List.replicate requests.length (0 : Int)))] w ∧ Has [] 63 a [(0, .slice ad1195 e1192.length cap1196), (1, .int .i64 (e1192.length : Int)), (2, .func (.func 88) [].toArray [.pointer (some q1114)].toArray), (6, .int .i64 s4663)]) ?_ ?_
           ·exact cu ⟨rfl, rfl, rfl, rfl, tv⟩
           ·rintro j s4663 y4666 hr4664 hz4665 a w ⟨hS, hA⟩
            refine TG.ap ?_ hS hA
            unfold m29_7 at hr4664
            refine sq (sq (rg (m1 rfl (m1 rfl (ltI rfl rfl rfl (on ?_))))))
            refine ci rfl (fun hc4670 => ?_) (fun hc4670 => ?_)
            ·have hr4671 := if_p hc4670 hr4664
             refine sk (bk (sq (rg (m1 rfl ?_))))
             obtain ⟨hk4688, hr4689⟩ := chk_some hr4671
             refine mlI rfl rfl rfl hk4688 (a1 rfl (a1 rfl (on (sq ?_))))
             obtain ⟨e4696, hl4697, hr4698⟩ := bd_some hr4689
             refine jn (fun a w => St M W H [K1157, K1131, K1120, K1115, K1112, K1109, K17, K14, H] [(4, Own.list ad1195 cap1196 3 1 (encI .i64) t4137), (2, cel b1158 133 [.slice ad10 r_2.words.length cap11, .int .i64 r_2.out, .int .i64 r_2.within, .map b1129, .slice ad1126 r1117.1.swaps.length cap1127, .slice none 0 0, .slice none 0 0, .slice (some ⟨b1156, 0, none⟩) ((List.replicate requests.length (0 : Int)).length) requests.length]), (1, Own.list (some ⟨b1156, 0, none⟩) requests.length 31 1 (encI .i64) (List.replicate requests.length (0 : Int)))] w ∧ Has [] 63 a [(0, .slice ad1195 e1192.length cap1196), (1, .int .i64 (e1192.length : Int)), (2, .func (.func 88) [].toArray [.pointer (some q1114)].toArray), (6, .int .i64 s4663), (7, .int .i64 (e4696 : Int))]) ?_ ?_
             ·refine bk ?_
              refine lp hl4697 (fun s4699 a w => St M W H [K1157, K1131, K1120, K1115, K1112, K1109, K17, K14, H] [(4, Own.list ad1195 cap1196 3 1 (encI .i64) t4137), (2, cel b1158 133 [.slice ad10 r_2.words.length cap11, .int .i64 r_2.out, .int .i64 r_2.within, .map b1129, .slice ad1126 r1117.1.swaps.length cap1127, .slice none 0 0, .slice none 0 0, .slice (some ⟨b1156, 0, none⟩) ((List.replicate requests.length (0 : Int)).length) requests.length]), (1, Own.list (some ⟨b1156, 0, none⟩) requests.length 31 1 (encI .i64) (List.replicate requests.length (0 : Int)))] w ∧ Has [] 63 a [(0, .slice ad1195 e1192.length cap1196), (1, .int .i64 (e1192.length : Int)), (2, .func (.func 88) [].toArray [.pointer (some q1114)].toArray), (6, .int .i64 s4663), (7, .int .i64 (s4699.1 : Int)), (8, .int .i64 s4699.2)]) ?_ ?_
              ·exact cu ⟨rfl, rfl, rfl, rfl, rfl, rfl, tv⟩
              ·rintro j s4699 y4702 hr4700 hz4701 a w ⟨hS, hA⟩
               refine TG.ap ?_ hS hA
               unfold m29_8 at hr4700
               refine sq (sq (rg (m1 rfl (m1 rfl (leI rfl rfl rfl (on ?_))))))
               refine ci rfl (fun hc4706 => ?_) (fun hc4706 => ?_)
               ·have hr4707 := if_p hc4706 hr4700
                refine sk (bk (sq (rg (m1 rfl (m1 rfl (m1 rfl (m1 rfl ?_)))))))
                obtain ⟨hk4710, hr4711⟩ := chk_some hr4707
                refine adI rfl rfl rfl hk4710 (m1 rfl (m1 rfl ?_))
                cases hr4711
               ·have hr4712 := if_n hc4706 hr4700
                refine xt rfl ?_
                cases hr4712
                obtain rfl := Fin.out hz4701
                exact cu ⟨rfl, rfl, rfl, rfl, rfl, tv⟩
             ·rintro a w ⟨hS, hA⟩
              refine TG.ap ?_ hS hA
              refine sq (sq (rg (m1 rfl (m1 rfl ?_))))
              obtain ⟨hk4713, hr4714⟩ := chk_some hr4698
              refine adI rfl rfl rfl hk4713 (a1 rfl (on (sq (rg (m1 rfl (m1 rfl (ltI rfl rfl rfl (on ?_))))))))
              refine ci rfl (fun hc4718 => ?_) (fun hc4718 => ?_)
              ·have hr4719 := if_p hc4718 hr4714
               refine rg (m1 rfl (m1 rfl (m1 rfl (m1 rfl (m1 rfl ?_)))))
               cases hr4719
              ·have hr4720 := if_n hc4718 hr4714
               refine sk (rg (m1 rfl ?_))
               obtain ⟨hk4721, hr4722⟩ := chk_some hr4720
               refine mlI rfl rfl rfl hk4721 (a1 rfl (on ?_))
               cases hr4722
               intro a w hS hA
               exact ⟨_, hz4665, hS, hA.cut ⟨rfl, rfl, rfl, rfl, tv⟩⟩
            ·have hr4723 := if_n hc4670 hr4664
             refine xt rfl ?_
             cases hr4723
             obtain rfl := Fin.out hz4665
             exact cu tv
          ·rintro a w ⟨hS, hA⟩
           refine TG.ap ?_ hS hA
           cases hr4662
           intro a w hS hA
           refine ret0 hA rfl ?_
           exact ⟨_, rfl, ⟨rfl, hS, hln4140⟩⟩
       ·rintro a w v hA (⟨rfl, hS, hln2556⟩)
        refine putK rfl hA hS (on ?_)
        cases hr2555
        intro a w hS hA
        refine ret0 hA rfl ?_
        exact ⟨_, rfl, ⟨rfl, hS, hln2556⟩⟩
      ·rintro a w v hA (⟨rfl, hS, hln1889⟩)
       refine putK rfl hA hS (on (sq (sq (rg (m1 rfl (TG.len 4 rfl fun _ => (lnL U86 rfl rfl (m1 rfl (on (TG.nilRow 7 63 5 ?_))))))))))
       have hR4837 : Rows (RRequest) 5 H [] ([] : List Request) := tv
       refine TG.nilRow 8 3 1 (TG.as 8 (z := Own.list none 0 3 1 (encI .i64) ([] : List Int)) rfl rfl (TG.as 7 (z := Own.rows none 0 63 5 [] ([] : List Request)) rfl rfl ?_))
       obtain ⟨e5013, hl5014, hr5015⟩ := bd_some hr1888
       refine jn (fun a w => ∃ (ad5016 : Option Addr) (cap5017 : Nat) (ad5018 : Option Addr) (cap5019 : Nat) (css5020 : List (List Value)) (K5021 : Hp), St M W H [K5021, K1157, K1131, K1120, K1115, K1112, K1109, K17, K14, H] [(8, Own.list ad5016 cap5017 3 1 (encI .i64) e5013.1), (7, Own.rows ad5018 cap5019 63 5 css5020 e5013.2.1), (4, Own.list ad1195 cap1196 3 1 (encI .i64) t1886), (2, cel b1158 133 [.slice ad10 r_2.words.length cap11, .int .i64 r_2.out, .int .i64 r_2.within, .map b1129, .slice ad1126 r1117.1.swaps.length cap1127, .slice ad5018 e5013.2.1.length cap5019, .slice ad5016 e5013.1.length cap5017, .slice (some ⟨b1156, 0, none⟩) ((List.replicate requests.length (0 : Int)).length) requests.length]), (1, Own.list (some ⟨b1156, 0, none⟩) requests.length 31 1 (encI .i64) e5013.2.2)] w ∧ Has [] 106 a [(13, .pointer (some (⟨b1158, 0, none⟩)))] ∧ Rows (RRequest) 5 K5021 css5020 e5013.2.1 ∧ e5013.2.2.length = (List.replicate requests.length (0 : Int)).length) ?_ ?_
       ·refine bk ?_
        refine lp hl5014 (fun s5024 a w => ∃ (ad5025 : Option Addr) (cap5026 : Nat) (ad5027 : Option Addr) (cap5028 : Nat) (css5029 : List (List Value)) (K5030 : Hp), St M W H [K5030, K1157, K1131, K1120, K1115, K1112, K1109, K17, K14, H] [(8, Own.list ad5025 cap5026 3 1 (encI .i64) s5024.2.1), (7, Own.rows ad5027 cap5028 63 5 css5029 s5024.2.2.1), (4, Own.list ad1195 cap1196 3 1 (encI .i64) t1886), (2, cel b1158 133 [.slice ad10 r_2.words.length cap11, .int .i64 r_2.out, .int .i64 r_2.within, .map b1129, .slice ad1126 r1117.1.swaps.length cap1127, .slice ad5027 s5024.2.2.1.length cap5028, .slice ad5025 s5024.2.1.length cap5026, .slice (some ⟨b1156, 0, none⟩) ((List.replicate requests.length (0 : Int)).length) requests.length]), (1, Own.list (some ⟨b1156, 0, none⟩) requests.length 31 1 (encI .i64) s5024.2.2.2)] w ∧ Has [] 106 a [(7, .pointer (some q1114)), (13, .pointer (some (⟨b1158, 0, none⟩))), (55, .slice ad1195 e1192.length cap1196), (56, .int .i64 (e1192.length : Int)), (57, .int .i64 (s5024.1 : Int))] ∧ Rows (RRequest) 5 K5030 css5029 s5024.2.2.1 ∧ s5024.2.2.2.length = (List.replicate requests.length (0 : Int)).length) ?_ ?_
        ·intro a w hS hA
         exact ⟨none, 0, none, 0, [], H, hS.selH [8, 0, 1, 2, 3, 4, 5, 6, 7, 8] rfl, hA.cut ⟨rfl, rfl, rfl, rfl, rfl, tv⟩, hR4837, rfl⟩
        ·rintro j s5024 y5035 hr5033 hz5034 a w ⟨ad5025, cap5026, ad5027, cap5028, css5029, K5030, hS, hA, hR5031, hln5032⟩
         refine TG.ap ?_ hS hA
         unfold m29_9 at hr5033
         refine sq (rg (ltI rfl rfl rfl (on (sq ?_))))
         refine ci rfl (fun hc5039 => ?_) (fun hc5039 => ?_)
         ·have hr5040 := if_p hc5039 hr5033
          refine sk (sq (bk (sq (rg ?_))))
          obtain ⟨x5113, hx5114, hr5115⟩ := bd_some hr5040
          refine TG.addr 4 rfl (lt_of0 hx5114) fun b5116 h => ?_; subst h
          refine iaP U86 Z3 rfl rfl rfl rfl (Nat.lt_of_lt_of_eq (lt_of hx5114) hln1889) (ld G3 rfl rfl (sE 4 rfl (fun _ => rfl) hx5114) rfl (a1 rfl (on (sq ?_))))
          obtain ⟨hk5117, hr5118⟩ := chk_some hr5115
          obtain ⟨x5119, hx5120, hr5121⟩ := bd_some hr5118
          obtain ⟨p5122, rfl⟩ := h_requests.adr hx5120
          obtain ⟨cs5123, hcs5124, hq5125, hr5126⟩ := h_requests.at hx5120
          have hr5127 := hr5126
          obtain ⟨ad5128, cap5129, rfl, hl5130⟩ := hr5126
          have := hl5130.len
          obtain ⟨r5131, hx5132, hr5133⟩ := bd_some hr5121
          refine drG 11 mixed (by kernel_rfl) rfl (dt rfl (m1 rfl fin1) (dt rfl (nl rfl rfl fin1) (dt rfl (fb 7 U133 rfl rfl rfl rfl Z59 fin1) (dt rfl (ld G59 rfl rfl ((sO 2 rfl).drop 7) rfl fin1) (dt rfl (m1 rfl fin1) (dt rfl (m1 rfl fin1) (dt rfl (ld G64 rfl rfl (sS 5 rfl hK1116) rfl fin1) (dt rfl (m1 rfl fin1) (dt rfl (iaP U64 Z63 rfl rfl rfl (by omega) (lt_of hx5120) fin1) (dt rfl (ldA G63 Z63 rfl rfl (sS 10 rfl hq5125) rfl fin1) (dt rfl (clL C90 rfl rfl rfl rfl (fun w hS => w90 (Hp.le.refl (hp w)) (hg.mono (hS.hp 10 rfl)) (⟨r_2, r1117.1, s5024.2.2.1, s5024.2.1, s5024.2.2.2⟩ : decided) (cell_at (hS.get (t := 2) rfl)) ⟨ad10, cap11, (.map b1129), ad1126, cap1127, ad5027, cap5028, ad5025, cap5026, (some ⟨b1156, 0, none⟩), requests.length, (by simp only [hln5032]), (hl12.mono (Flat.mono _) (hS.hp 10 rfl)), (hm1125.mono (hS.hp 4 rfl)), (hl1128.mono (Flat.mono _) (hS.hp 4 rfl)), (rows_sl (H := hp w) (hS.get (t := 7) rfl) (hR5031.mono (RRequest.mono) (hS.hp 1 rfl)) (fun _ _ _ ho => ho)), (list_sl (H := hp w) (enc := encI .i64) (size := 1) (ad := ad5025) (cap := cap5026) (el := 3) (l := s5024.2.1) (fun _ => rfl) (hS.get (t := 8) rfl) (fun _ _ _ ho => ho)), (list_sl (H := hp w) (enc := encI .i64) (size := 1) (ad := (some ⟨b1156, 0, none⟩)) (cap := requests.length) (el := 31) (l := s5024.2.2.2) (fun _ => rfl) (hS.get (t := 1) rfl) (fun _ _ _ ho => ho))⟩ x5119 (RRequest.mono _ _ _ _ (hS.hp 10 rfl) hr5127) hx5132) fin1) ?_)))))))))))
          refine DF.nil fun K5134 hF => ?_
          obtain ⟨x5135, hx5136, hr5137⟩ := bd_some hr5133
          refine iaP U59 Z31 rfl rfl rfl (by omega) (Nat.lt_of_lt_of_eq (lt_of hx5136) hln5032) ?_
          have hln5138 : (s5024.2.2.2.set x5113.toNat r5131).length = (List.replicate requests.length (0 : Int)).length := (lenS _ _ _).trans hln5032
          refine stE 1 r5131 (q := ⟨b1156, 0, none⟩) (j := x5113.toNat) (size := 1) (cs := [.int .i64 r5131]) (off := 0) Z31 rfl rfl rfl (fun _ => rfl) hx5136 rfl rfl rfl rfl rfl (on (sq (rg (m1 rfl (nl rfl rfl (fb 7 U133 rfl rfl rfl rfl Z59 (ld G59 rfl rfl ((sO 2 rfl).drop 7) rfl (m1 rfl ?_))))))))
          obtain ⟨x5139, hx5140, hr5141⟩ := bd_some hr5137
          refine iaP U59 Z31 rfl rfl rfl (by omega) (Nat.lt_of_lt_of_eq (lt_of hx5140) hln5138) (ld G31 rfl rfl (sE 1 rfl (fun _ => rfl) hx5140) rfl (eqI rfl rfl rfl (on ?_)))
          obtain ⟨t5177, hx5178, hr5179⟩ := bd_some hr5141
          refine jn (fun a w => ∃ (ad5180 : Option Addr) (cap5181 : Nat) (ad5182 : Option Addr) (cap5183 : Nat) (css5184 : List (List Value)) (K5185 : Hp), St M W H [K5185, K5134, K5030, K1157, K1131, K1120, K1115, K1112, K1109, K17, K14, H] [(8, Own.list ad5180 cap5181 3 1 (encI .i64) t5177.1), (7, Own.rows ad5182 cap5183 63 5 css5184 t5177.2), (4, Own.list (some ⟨b5116, 0, none⟩) cap1196 3 1 (encI .i64) t1886), (2, cel b1158 133 [.slice ad10 r_2.words.length cap11, .int .i64 r_2.out, .int .i64 r_2.within, .map b1129, .slice ad1126 r1117.1.swaps.length cap1127, .slice ad5182 t5177.2.length cap5183, .slice ad5180 t5177.1.length cap5181, .slice (some ⟨b1156, 0, none⟩) ((List.replicate requests.length (0 : Int)).length) requests.length]), (1, Own.list (some ⟨b1156, 0, none⟩) requests.length 31 1 (encI .i64) (s5024.2.2.2.set x5113.toNat r5131))] w ∧ Has [] 106 a [(7, .pointer (some q1114)), (13, .pointer (some (⟨b1158, 0, none⟩))), (55, .slice (some ⟨b5116, 0, none⟩) e1192.length cap1196), (56, .int .i64 (e1192.length : Int)), (57, .int .i64 (s5024.1 : Int))] ∧ Rows (RRequest) 5 K5185 css5184 t5177.2) ?_ ?_
          ·refine ci rfl (fun hc5187 => ?_) (fun hc5187 => ?_)
           ·have hr5188 := if_p hc5187 hx5178
            obtain ⟨hk5198, hr5199⟩ := chk_some hr5188
            have := lenA s5024.2.2.1 ([x5119] : List Request)
            obtain ⟨hk5216, hr5217⟩ := chk_some hr5199
            have := lenA s5024.2.1 ([x5113] : List Int)
            refine drG3 19 [11, 18] [(1, 82, .pointer (some (⟨b1158, 0, none⟩)))] mixed (fun _ _ _ _ _ h => h) (by kernel_rfl) (by kernel_rfl) (by kernel_rfl) rfl (by kernel_rfl) (.cons rfl rfl rfl (fun _ => rfl) (by kernel_rfl) (by kernel_rfl) (fun _ _ => rfl) (mvY rfl) (.nil)) (DC.detA rfl rfl rfl (fun τ a w K hS hA hF => TG.pa hS hA (m1 rfl fin1)) (DC.pre (.head _) rfl (dc rfl (by kernel_rfl) tv rfl rfl (m1 rfl fin1) (dc rfl (by kernel_rfl) tv rfl rfl (nl rfl rfl fin1) (dc rfl (by kernel_rfl) tv rfl rfl (fb 5 U133 rfl rfl rfl rfl Z64 fin1) (dc rfl (by kernel_rfl) tv rfl rfl (ld G64 rfl rfl (((sO 2 rfl).drop 5).take 1) rfl fin1) (dc rfl (by kernel_rfl) tv rfl rfl (ld G64 rfl rfl (sS 6 rfl hK1116) rfl fin1) (dc rfl (by kernel_rfl) tv rfl rfl (m1 rfl fin1) (dc rfl (by kernel_rfl) tv rfl rfl (iaP U64 Z63 rfl rfl rfl (by omega) (lt_of hx5120) fin1) (dc rfl (by kernel_rfl) tv rfl rfl (ldA G63 Z63 rfl rfl (sS 11 rfl hq5125) rfl fin1) ?_))))))))))
            refine DC.und (α := Option Addr × Nat) (none, 0) (fun q => .slice q.1 1 q.2) (fun (q : Option Addr × Nat) K => Sl (RRequest) 5 K q.1 q.2 ([x5119] : List Request)) (fun τ => τ = [(8, Own.list ad5025 cap5026 3 1 (encI .i64) s5024.2.1), (7, Own.rows ad5027 cap5028 63 5 css5029 s5024.2.2.1), (4, Own.list (some ⟨b5116, 0, none⟩) cap1196 3 1 (encI .i64) t1886), (2, cel b1158 133 [.slice ad10 r_2.words.length cap11, .int .i64 r_2.out, .int .i64 r_2.within, .map b1129, .slice ad1126 r1117.1.swaps.length cap1127, .slice ad5027 s5024.2.2.1.length cap5028, .slice ad5025 s5024.2.1.length cap5026, .slice (some ⟨b1156, 0, none⟩) ((List.replicate requests.length (0 : Int)).length) requests.length]), (1, Own.list (some ⟨b1156, 0, none⟩) requests.length 31 1 (encI .i64) (s5024.2.2.2.set x5113.toNat r5131))]) rfl rfl (by kernel_rfl) tv (fun _ _ _ h x => x.mono (RRequest.mono) h) (by kernel_rfl) rfl rfl (fun τ hτ a w K hS hA hF => by subst hτ <;> exact TG.pa hS hA (bS (cs := [.int .i64 x5119.by_, .int .i64 x5119.minute, .int .i64 x5119.from_, .int .i64 x5119.cut, .slice ad5128 x5119.put_.length cap5129]) T4.E64 rfl rfl rfl rfl fun q5189 K5190 hq5191 hK5192 => by
              refine TG.pack (fun K => Sl (RRequest) 5 K (some q5189) 1 ([x5119] : List Request)) (fun H le => Sl.litR (css := [[.int .i64 x5119.by_, .int .i64 x5119.minute, .int .i64 x5119.from_, .int .i64 x5119.cut, .slice ad5128 x5119.put_.length cap5129]]) (l := ([x5119] : List Request)) ⟨⟨rfl, rfl, (RRequest.mono _ _ _ _ (le.at 12 rfl) hr5127)⟩, tv⟩ hq5191 (hK5192.mono (le.at 0 rfl)) rfl) fun K5194 hl5193 => ?_
              have := hl5193.len
              refine sk1 ?_
              exact finU (f := fun q => .slice q.1 1 q.2) (G := (fun (q : Option Addr × Nat) K => Sl (RRequest) 5 K q.1 q.2 ([x5119] : List Request))) (_, _) (fun _ _ _ h x => x.mono (RRequest.mono) h) hl5193)) ?_
            rintro ⟨ad5196, cap5197⟩
            refine DC.turn (α := Option Addr × Nat × List (List Value)) (none, 0, []) (fun q => .slice q.1 ((s5024.2.2.1 ++ ([x5119] : List Request)).length) q.2.1) (fun (q : Option Addr × Nat × List (List Value)) K => Rows (RRequest) 5 K q.2.2 (s5024.2.2.1 ++ ([x5119] : List Request))) (fun q => [(8, Own.list ad5025 cap5026 3 1 (encI .i64) s5024.2.1), (7, Own.rows q.1 q.2.1 63 5 q.2.2 (s5024.2.2.1 ++ ([x5119] : List Request))), (4, Own.list (some ⟨b5116, 0, none⟩) cap1196 3 1 (encI .i64) t1886), (2, cel b1158 133 [.slice ad10 r_2.words.length cap11, .int .i64 r_2.out, .int .i64 r_2.within, .map b1129, .slice ad1126 r1117.1.swaps.length cap1127, .slice ad5027 s5024.2.2.1.length cap5028, .slice ad5025 s5024.2.1.length cap5026, .slice (some ⟨b1156, 0, none⟩) ((List.replicate requests.length (0 : Int)).length) requests.length]), (1, Own.list (some ⟨b1156, 0, none⟩) requests.length 31 1 (encI .i64) (s5024.2.2.2.set x5113.toNat r5131))]) rfl (fun _ _ _ h x => x.mono (RRequest.mono) h) (by kernel_rfl) rfl rfl (fun a w K hS hA hF => TG.pa hS hA (TG.pack (fun K => Sl (RRequest) 5 K ad5196 cap5197 ([x5119] : List Request) ∧ Rows (RRequest) 5 K css5029 s5024.2.2.1) (fun H le => ⟨(hF.1 rfl).mono (RRequest.mono) (le.at 0 rfl), hR5031.mono (RRequest.mono) (le.at 2 rfl)⟩) fun K5202 ⟨hm5203, hR5204⟩ => apR 7 (l := s5024.2.2.1) (m := ([x5119] : List Request)) T4.E64 rfl rfl rfl rfl rfl rfl hm5203 hR5204 RRequest.one rfl hk5198 fun ad5200 cap5201 css5206 hR5205 => finV (f := fun (q : Option Addr × Nat × List (List Value)) => .slice q.1 ((s5024.2.2.1 ++ ([x5119] : List Request)).length) q.2.1) (G := (fun (q : Option Addr × Nat × List (List Value)) K => Rows (RRequest) 5 K q.2.2 (s5024.2.2.1 ++ ([x5119] : List Request)))) (σ1 := fun q => [(8, Own.list ad5025 cap5026 3 1 (encI .i64) s5024.2.1), (7, Own.rows q.1 q.2.1 63 5 q.2.2 (s5024.2.2.1 ++ ([x5119] : List Request))), (4, Own.list (some ⟨b5116, 0, none⟩) cap1196 3 1 (encI .i64) t1886), (2, cel b1158 133 [.slice ad10 r_2.words.length cap11, .int .i64 r_2.out, .int .i64 r_2.within, .map b1129, .slice ad1126 r1117.1.swaps.length cap1127, .slice ad5027 s5024.2.2.1.length cap5028, .slice ad5025 s5024.2.1.length cap5026, .slice (some ⟨b1156, 0, none⟩) ((List.replicate requests.length (0 : Int)).length) requests.length]), (1, Own.list (some ⟨b1156, 0, none⟩) requests.length 31 1 (encI .i64) (s5024.2.2.2.set x5113.toNat r5131))]) (ad5200, cap5201, css5206) (fun _ _ _ h x => x.mono (RRequest.mono) h) hR5205)) ?_
            rintro ⟨ad5200, cap5201, css5206⟩
            refine DC.det (fun τ => τ = [(8, Own.list ad5025 cap5026 3 1 (encI .i64) s5024.2.1), (7, Own.rows ad5200 cap5201 63 5 css5206 (s5024.2.2.1 ++ ([x5119] : List Request))), (4, Own.list (some ⟨b5116, 0, none⟩) cap1196 3 1 (encI .i64) t1886), (2, cel b1158 133 [.slice ad10 r_2.words.length cap11, .int .i64 r_2.out, .int .i64 r_2.within, .map b1129, .slice ad1126 r1117.1.swaps.length cap1127, .slice ad5027 s5024.2.2.1.length cap5028, .slice ad5025 s5024.2.1.length cap5026, .slice (some ⟨b1156, 0, none⟩) ((List.replicate requests.length (0 : Int)).length) requests.length]), (1, Own.list (some ⟨b1156, 0, none⟩) requests.length 31 1 (encI .i64) (s5024.2.2.2.set x5113.toNat r5131))] ∨ τ = [(8, Own.list ad5025 cap5026 3 1 (encI .i64) s5024.2.1), (7, Own.rows ad5027 cap5028 63 5 css5029 s5024.2.2.1), (4, Own.list (some ⟨b5116, 0, none⟩) cap1196 3 1 (encI .i64) t1886), (2, cel b1158 133 [.slice ad10 r_2.words.length cap11, .int .i64 r_2.out, .int .i64 r_2.within, .map b1129, .slice ad1126 r1117.1.swaps.length cap1127, .slice ad5027 s5024.2.2.1.length cap5028, .slice ad5025 s5024.2.1.length cap5026, .slice (some ⟨b1156, 0, none⟩) ((List.replicate requests.length (0 : Int)).length) requests.length]), (1, Own.list (some ⟨b1156, 0, none⟩) requests.length 31 1 (encI .i64) (s5024.2.2.2.set x5113.toNat r5131))]) rfl (.inl rfl) (by kernel_rfl) ⟨.inl (.inr (rfl)), tv⟩ rfl rfl (fun τ hτ a w K hS hA hF => by rcases hτ with rfl | rfl <;> exact TG.pa hS hA (m1 rfl fin1)) ?_
            refine DC.det (fun τ => τ = [(8, Own.list ad5025 cap5026 3 1 (encI .i64) s5024.2.1), (7, Own.rows ad5200 cap5201 63 5 css5206 (s5024.2.2.1 ++ ([x5119] : List Request))), (4, Own.list (some ⟨b5116, 0, none⟩) cap1196 3 1 (encI .i64) t1886), (2, cel b1158 133 [.slice ad10 r_2.words.length cap11, .int .i64 r_2.out, .int .i64 r_2.within, .map b1129, .slice ad1126 r1117.1.swaps.length cap1127, .slice ad5027 s5024.2.2.1.length cap5028, .slice ad5025 s5024.2.1.length cap5026, .slice (some ⟨b1156, 0, none⟩) ((List.replicate requests.length (0 : Int)).length) requests.length]), (1, Own.list (some ⟨b1156, 0, none⟩) requests.length 31 1 (encI .i64) (s5024.2.2.2.set x5113.toNat r5131))] ∨ τ = [(8, Own.list ad5025 cap5026 3 1 (encI .i64) s5024.2.1), (7, Own.rows ad5027 cap5028 63 5 css5029 s5024.2.2.1), (4, Own.list (some ⟨b5116, 0, none⟩) cap1196 3 1 (encI .i64) t1886), (2, cel b1158 133 [.slice ad10 r_2.words.length cap11, .int .i64 r_2.out, .int .i64 r_2.within, .map b1129, .slice ad1126 r1117.1.swaps.length cap1127, .slice ad5027 s5024.2.2.1.length cap5028, .slice ad5025 s5024.2.1.length cap5026, .slice (some ⟨b1156, 0, none⟩) ((List.replicate requests.length (0 : Int)).length) requests.length]), (1, Own.list (some ⟨b1156, 0, none⟩) requests.length 31 1 (encI .i64) (s5024.2.2.2.set x5113.toNat r5131))]) rfl (.inl rfl) (by kernel_rfl) ⟨.inl (.inr (rfl)), tv⟩ rfl rfl (fun τ hτ a w K hS hA hF => by rcases hτ with rfl | rfl <;> exact TG.pa hS hA (nl rfl rfl fin1)) ?_
            refine DC.det (fun τ => τ = [(8, Own.list ad5025 cap5026 3 1 (encI .i64) s5024.2.1), (7, Own.rows ad5200 cap5201 63 5 css5206 (s5024.2.2.1 ++ ([x5119] : List Request))), (4, Own.list (some ⟨b5116, 0, none⟩) cap1196 3 1 (encI .i64) t1886), (2, cel b1158 133 [.slice ad10 r_2.words.length cap11, .int .i64 r_2.out, .int .i64 r_2.within, .map b1129, .slice ad1126 r1117.1.swaps.length cap1127, .slice ad5027 s5024.2.2.1.length cap5028, .slice ad5025 s5024.2.1.length cap5026, .slice (some ⟨b1156, 0, none⟩) ((List.replicate requests.length (0 : Int)).length) requests.length]), (1, Own.list (some ⟨b1156, 0, none⟩) requests.length 31 1 (encI .i64) (s5024.2.2.2.set x5113.toNat r5131))] ∨ τ = [(8, Own.list ad5025 cap5026 3 1 (encI .i64) s5024.2.1), (7, Own.rows ad5027 cap5028 63 5 css5029 s5024.2.2.1), (4, Own.list (some ⟨b5116, 0, none⟩) cap1196 3 1 (encI .i64) t1886), (2, cel b1158 133 [.slice ad10 r_2.words.length cap11, .int .i64 r_2.out, .int .i64 r_2.within, .map b1129, .slice ad1126 r1117.1.swaps.length cap1127, .slice ad5027 s5024.2.2.1.length cap5028, .slice ad5025 s5024.2.1.length cap5026, .slice (some ⟨b1156, 0, none⟩) ((List.replicate requests.length (0 : Int)).length) requests.length]), (1, Own.list (some ⟨b1156, 0, none⟩) requests.length 31 1 (encI .i64) (s5024.2.2.2.set x5113.toNat r5131))]) rfl (.inl rfl) (by kernel_rfl) ⟨.inl (.inr (rfl)), tv⟩ rfl rfl (fun τ hτ a w K hS hA hF => by rcases hτ with rfl | rfl <;> exact TG.pa hS hA (fb 6 U133 rfl rfl rfl rfl Z86 fin1)) ?_
            refine DC.det (fun τ => τ = [(8, Own.list ad5025 cap5026 3 1 (encI .i64) s5024.2.1), (7, Own.rows ad5200 cap5201 63 5 css5206 (s5024.2.2.1 ++ ([x5119] : List Request))), (4, Own.list (some ⟨b5116, 0, none⟩) cap1196 3 1 (encI .i64) t1886), (2, cel b1158 133 [.slice ad10 r_2.words.length cap11, .int .i64 r_2.out, .int .i64 r_2.within, .map b1129, .slice ad1126 r1117.1.swaps.length cap1127, .slice ad5027 s5024.2.2.1.length cap5028, .slice ad5025 s5024.2.1.length cap5026, .slice (some ⟨b1156, 0, none⟩) ((List.replicate requests.length (0 : Int)).length) requests.length]), (1, Own.list (some ⟨b1156, 0, none⟩) requests.length 31 1 (encI .i64) (s5024.2.2.2.set x5113.toNat r5131))] ∨ τ = [(8, Own.list ad5025 cap5026 3 1 (encI .i64) s5024.2.1), (7, Own.rows ad5027 cap5028 63 5 css5029 s5024.2.2.1), (4, Own.list (some ⟨b5116, 0, none⟩) cap1196 3 1 (encI .i64) t1886), (2, cel b1158 133 [.slice ad10 r_2.words.length cap11, .int .i64 r_2.out, .int .i64 r_2.within, .map b1129, .slice ad1126 r1117.1.swaps.length cap1127, .slice ad5027 s5024.2.2.1.length cap5028, .slice ad5025 s5024.2.1.length cap5026, .slice (some ⟨b1156, 0, none⟩) ((List.replicate requests.length (0 : Int)).length) requests.length]), (1, Own.list (some ⟨b1156, 0, none⟩) requests.length 31 1 (encI .i64) (s5024.2.2.2.set x5113.toNat r5131))]) rfl (.inl rfl) (by kernel_rfl) ⟨.inl (.inr (rfl)), tv⟩ rfl rfl (fun τ hτ a w K hS hA hF => by rcases hτ with rfl | rfl <;> exact TG.pa hS hA (ld G86 rfl rfl (((sO 2 rfl).drop 6).take 1) rfl fin1)) ?_
            refine DC.det (fun τ => τ = [(8, Own.list ad5025 cap5026 3 1 (encI .i64) s5024.2.1), (7, Own.rows ad5200 cap5201 63 5 css5206 (s5024.2.2.1 ++ ([x5119] : List Request))), (4, Own.list (some ⟨b5116, 0, none⟩) cap1196 3 1 (encI .i64) t1886), (2, cel b1158 133 [.slice ad10 r_2.words.length cap11, .int .i64 r_2.out, .int .i64 r_2.within, .map b1129, .slice ad1126 r1117.1.swaps.length cap1127, .slice ad5027 s5024.2.2.1.length cap5028, .slice ad5025 s5024.2.1.length cap5026, .slice (some ⟨b1156, 0, none⟩) ((List.replicate requests.length (0 : Int)).length) requests.length]), (1, Own.list (some ⟨b1156, 0, none⟩) requests.length 31 1 (encI .i64) (s5024.2.2.2.set x5113.toNat r5131))] ∨ τ = [(8, Own.list ad5025 cap5026 3 1 (encI .i64) s5024.2.1), (7, Own.rows ad5027 cap5028 63 5 css5029 s5024.2.2.1), (4, Own.list (some ⟨b5116, 0, none⟩) cap1196 3 1 (encI .i64) t1886), (2, cel b1158 133 [.slice ad10 r_2.words.length cap11, .int .i64 r_2.out, .int .i64 r_2.within, .map b1129, .slice ad1126 r1117.1.swaps.length cap1127, .slice ad5027 s5024.2.2.1.length cap5028, .slice ad5025 s5024.2.1.length cap5026, .slice (some ⟨b1156, 0, none⟩) ((List.replicate requests.length (0 : Int)).length) requests.length]), (1, Own.list (some ⟨b1156, 0, none⟩) requests.length 31 1 (encI .i64) (s5024.2.2.2.set x5113.toNat r5131))]) rfl (.inl rfl) (by kernel_rfl) ⟨.inl (.inr (rfl)), tv⟩ rfl rfl (fun τ hτ a w K hS hA hF => by rcases hτ with rfl | rfl <;> exact TG.pa hS hA (m1 rfl fin1)) ?_
            refine DC.und (α := Option Addr × Nat) (none, 0) (fun q => .slice q.1 1 q.2) (fun (q : Option Addr × Nat) K => Sl (Flat (encI .i64)) 1 K q.1 q.2 ([x5113] : List Int)) (fun τ => τ = [(8, Own.list ad5025 cap5026 3 1 (encI .i64) s5024.2.1), (7, Own.rows ad5200 cap5201 63 5 css5206 (s5024.2.2.1 ++ ([x5119] : List Request))), (4, Own.list (some ⟨b5116, 0, none⟩) cap1196 3 1 (encI .i64) t1886), (2, cel b1158 133 [.slice ad10 r_2.words.length cap11, .int .i64 r_2.out, .int .i64 r_2.within, .map b1129, .slice ad1126 r1117.1.swaps.length cap1127, .slice ad5027 s5024.2.2.1.length cap5028, .slice ad5025 s5024.2.1.length cap5026, .slice (some ⟨b1156, 0, none⟩) ((List.replicate requests.length (0 : Int)).length) requests.length]), (1, Own.list (some ⟨b1156, 0, none⟩) requests.length 31 1 (encI .i64) (s5024.2.2.2.set x5113.toNat r5131))] ∨ τ = [(8, Own.list ad5025 cap5026 3 1 (encI .i64) s5024.2.1), (7, Own.rows ad5027 cap5028 63 5 css5029 s5024.2.2.1), (4, Own.list (some ⟨b5116, 0, none⟩) cap1196 3 1 (encI .i64) t1886), (2, cel b1158 133 [.slice ad10 r_2.words.length cap11, .int .i64 r_2.out, .int .i64 r_2.within, .map b1129, .slice ad1126 r1117.1.swaps.length cap1127, .slice ad5027 s5024.2.2.1.length cap5028, .slice ad5025 s5024.2.1.length cap5026, .slice (some ⟨b1156, 0, none⟩) ((List.replicate requests.length (0 : Int)).length) requests.length]), (1, Own.list (some ⟨b1156, 0, none⟩) requests.length 31 1 (encI .i64) (s5024.2.2.2.set x5113.toNat r5131))]) rfl (.inl rfl) (by kernel_rfl) ⟨.inl (.inr (rfl)), tv⟩ (fun _ _ _ h x => x.mono (Flat.mono _) h) (by kernel_rfl) rfl rfl (fun τ hτ a w K hS hA hF => by rcases hτ with rfl | rfl <;> exact TG.pa hS hA (bS (cs := [.int .i64 x5113]) T4.E86 rfl rfl rfl rfl fun q5208 K5209 hq5210 hK5211 => by
              have hl5212 : Sl (Flat (encI .i64)) 1 K5209 (some q5208) 1 ([x5113] : List Int) := Sl.litR (css := [[.int .i64 x5113]]) (l := ([x5113] : List Int)) ⟨⟨rfl, rfl, rfl⟩, tv⟩ hq5210 hK5211 rfl
              have := hl5212.len
              exact finU (f := fun q => .slice q.1 1 q.2) (G := (fun (q : Option Addr × Nat) K => Sl (Flat (encI .i64)) 1 K q.1 q.2 ([x5113] : List Int))) (_, _) (fun _ _ _ h x => x.mono (Flat.mono _) h) hl5212)) ?_
            rintro ⟨ad5214, cap5215⟩
            refine DC.turn (α := Option Addr × Nat) (none, 0) (fun q => .slice q.1 ((s5024.2.1 ++ ([x5113] : List Int)).length) q.2) (fun _ _ => True) (fun q => [(8, Own.list q.1 q.2 3 1 (encI .i64) (s5024.2.1 ++ ([x5113] : List Int))), (7, Own.rows ad5200 cap5201 63 5 css5206 (s5024.2.2.1 ++ ([x5119] : List Request))), (4, Own.list (some ⟨b5116, 0, none⟩) cap1196 3 1 (encI .i64) t1886), (2, cel b1158 133 [.slice ad10 r_2.words.length cap11, .int .i64 r_2.out, .int .i64 r_2.within, .map b1129, .slice ad1126 r1117.1.swaps.length cap1127, .slice ad5027 s5024.2.2.1.length cap5028, .slice ad5025 s5024.2.1.length cap5026, .slice (some ⟨b1156, 0, none⟩) ((List.replicate requests.length (0 : Int)).length) requests.length]), (1, Own.list (some ⟨b1156, 0, none⟩) requests.length 31 1 (encI .i64) (s5024.2.2.2.set x5113.toNat r5131))]) rfl (fun _ _ _ _ h => h) (by kernel_rfl) rfl rfl (fun a w K hS hA hF => TG.pa hS hA (apS 8 (enc := encI .i64) (l := s5024.2.1) (m := ([x5113] : List Int)) T4.E86 rfl rfl rfl rfl rfl rfl (hF.1 rfl) 0 rfl (fun _ => rfl) (fun _ => rfl) rfl hk5216 fun ad5218 cap5219 => finT (f := fun q => .slice q.1 ((s5024.2.1 ++ ([x5113] : List Int)).length) q.2) (G := fun _ _ => True) (σ1 := fun q => [(8, Own.list q.1 q.2 3 1 (encI .i64) (s5024.2.1 ++ ([x5113] : List Int))), (7, Own.rows ad5200 cap5201 63 5 css5206 (s5024.2.2.1 ++ ([x5119] : List Request))), (4, Own.list (some ⟨b5116, 0, none⟩) cap1196 3 1 (encI .i64) t1886), (2, cel b1158 133 [.slice ad10 r_2.words.length cap11, .int .i64 r_2.out, .int .i64 r_2.within, .map b1129, .slice ad1126 r1117.1.swaps.length cap1127, .slice ad5027 s5024.2.2.1.length cap5028, .slice ad5025 s5024.2.1.length cap5026, .slice (some ⟨b1156, 0, none⟩) ((List.replicate requests.length (0 : Int)).length) requests.length]), (1, Own.list (some ⟨b1156, 0, none⟩) requests.length 31 1 (encI .i64) (s5024.2.2.2.set x5113.toNat r5131))]) (_, _) tv)) ?_
            rintro ⟨ad5218, cap5219⟩
            refine DC.nil fun K5220 hF => ?_
            obtain ⟨_, hu5213, hu5207, hu5195, _⟩ := hF
            have := hu5195.len
            have := hu5213.len
            refine nl rfl rfl (fb 5 U133 rfl rfl rfl rfl Z64 (sto 2 (cs := [.slice ad5200 ((s5024.2.2.1 ++ ([x5119] : List Request)).length) cap5201]) Z64 rfl rfl rfl rfl rfl rfl rfl (nl rfl rfl (fb 6 U133 rfl rfl rfl rfl Z86 (sto 2 (cs := [.slice ad5218 ((s5024.2.1 ++ ([x5113] : List Int)).length) cap5219]) Z86 rfl rfl rfl rfl rfl rfl rfl (on ?_))))))
            cases hr5217
            intro a w hS hA
            exact ⟨ad5218, cap5219, ad5200, cap5201, css5206, K5220, hS, hA.cut ⟨rfl, rfl, rfl, rfl, rfl, tv⟩, hu5207⟩
           ·have hr5221 := if_n hc5187 hx5178
            refine sk ?_
            cases hr5221
            intro a w hS hA
            exact ⟨ad5025, cap5026, ad5027, cap5028, css5029, K5030, hS.selH [1, 0, 1, 2, 3, 4, 5, 6, 7, 8, 9, 10] rfl, hA.cut ⟨rfl, rfl, rfl, rfl, rfl, tv⟩, hR5031⟩
          ·rintro a w ⟨ad5180, cap5181, ad5182, cap5183, css5184, K5185, hS, hA, hR5186⟩
           refine TG.ap ?_ hS hA
           refine rg (adI rfl rfl rfl (by omega) (m1 rfl (on ?_)))
           cases hr5179
           intro a w hS hA
           exact ⟨_, hz5034, ad5180, cap5181, ad5182, cap5183, css5184, K5185, hS.selH [0, 3, 4, 5, 6, 7, 8, 9, 10, 11] rfl, hA.cut ⟨rfl, rfl, rfl, rfl, rfl, tv⟩, hR5186, hln5138⟩
         ·have hr5222 := if_n hc5039 hr5033
          refine xt rfl ?_
          cases hr5222
          obtain rfl := Fin.out hz5034
          intro a w hS hA
          exact ⟨ad5025, cap5026, ad5027, cap5028, css5029, K5030, hS, hA.cut ⟨rfl, tv⟩, hR5031, hln5032⟩
       ·rintro a w ⟨ad5016, cap5017, ad5018, cap5019, css5020, K5021, hS, hA, hR5022, hln5023⟩
        refine TG.ap ?_ hS hA
        refine sq (rg (m1 rfl (a1 rfl (a1 rfl (on (rt_ (TG.del 4 (TG.as 2 (z := cel b1158 133 [.slice ad10 r_2.words.length cap11, .int .i64 r_2.out, .int .i64 r_2.within, .map b1129, .slice ad1126 r1117.1.swaps.length cap1127, .slice ad5018 e5013.2.1.length cap5019, .slice ad5016 e5013.1.length cap5017, .slice (some ⟨b1156, 0, none⟩) e5013.2.2.length requests.length]) rfl (by rw [hln5023]) ?_))))))))
        cases hr5015
        intro a w hS hA
        refine ret2 hA rfl rfl rfl ?_
        exact ⟨_, rfl, .inr (⟨_, rfl, b1158, ad5016, cap5017, ad5018, cap5019, css5020, K5021, ad10, cap11, H, .map b1129, K1120, ad1126, cap1127, K1120, (some ⟨b1156, 0, none⟩), requests.length, rfl, hS.selH [0, 9, 3, 3, 7, 8, 9] rfl, hR5022, hl12, hm1125, hl1128⟩)⟩
 ·rintro a w v hA (⟨t1085, rfl, rfl, hS⟩ | ⟨t1086, rfl, b1087, ad1088, cap1089, ad1090, cap1091, css1092, K1093, ad1095, cap1096, K1097, mp1099, K1100, ad1102, cap1103, K1104, ad1106, cap1107, rfl, hS, hR1094, hl1098, hm1101, hl1105⟩)
  ·refine putK rfl hA hS (m1 rfl (ex rfl rfl rfl (ex rfl rfl rfl (a1 rfl (a1 rfl (on (sq (sq (rg (m1 rfl (neI rfl rfl rfl ?_)))))))))))
   refine on ?_
   refine ci rfl (fun hc5226 => ?_) (fun hc5226 => ?_)
   ·have hr5227 := if_p hc5226 hr1084
    refine sq (rg (m1 rfl (a1 rfl (a1 rfl (on (rt_ ?_))))))
    cases hr5227
    intro a w hS hA
    refine ret2 hA rfl rfl rfl ?_
    exact ⟨⟨_, _, rfl, (Sl.nil _ _ _ _ _ (by decide))⟩, hS.ext⟩
   ·have hr5228 := if_n hc5226 hr1084
    refine sk (sq (rg (m1 rfl ?_)))
    cases hr5228
  ·have := hl1098.len
   have := hl1105.len
   refine putK rfl hA hS (m1 rfl (ex rfl rfl rfl (ex rfl rfl rfl (a1 rfl (a1 rfl (on (sq (sq (rg (m1 rfl (neI rfl rfl rfl ?_)))))))))))
   refine on (cF rfl ((rfl : decide ((0 : Int) ≠ (0 : Int)) = false)) (sk (sq (rg (m1 rfl (nl rfl rfl (fb 7 U133 rfl rfl rfl rfl Z59 (ld G59 rfl rfl ((sO 2 rfl).drop 7) rfl (a1 rfl (a1 rfl (on ?_)))))))))))
   refine rt_ ?_
   cases hr1084
   intro a w hS hA
   refine ret2 hA rfl rfl rfl ?_
   exact ⟨⟨_, _, rfl, (hS.listOut 1 rfl (fun _ => rfl))⟩, hS.ext⟩

theorem w41 {M : Prop} {W : World} {H : Hp} (hH : H.le (hp W)) {ad_a_0 : Option Addr} {cap_a_0 : Nat} {a_0 : List Mark} (h_a_0 : Sl (Flat encMark) 2 H ad_a_0 cap_a_0 a_0) {ad_b_1 : Option Addr} {cap_b_1 : Nat} {b_1 : List Mark} (h_b_1 : Sl (Flat encMark) 2 H ad_b_1 cap_b_1 b_1) {r : Bool} (hr : m41 a_0 b_1 = some r) : Calls Tryz.prog 41 [.slice ad_a_0 a_0.length cap_a_0, .slice ad_b_1 b_1.length cap_b_1].toArray W (RetS M W (.bool r)) := by
 have := h_a_0.len
 have := h_b_1.len
 unfold m41 at hr
 refine enterG (M := M) Tryz.func41 rfl Tryz.ntmps41 rfl hH ?_
 refine sq (rg (a1 rfl (on (sq (sq (rg (m1 rfl (lnL U49 rfl rfl (m1 rfl (lnL U44 rfl rfl (neI rfl rfl rfl ?_)))))))))))
 refine on ?_
 refine ci rfl (fun hc4 => ?_) (fun hc4 => ?_)
 ·have hr5 := if_p hc4 hr
  refine sq (rg (a1 rfl (on (rt_ ?_))))
  cases hr5
  intro a w hS hA
  refine ret1 hA rfl rfl ?_
  exact ⟨rfl, hS.ext⟩
 ·have hr6 := if_n hc4 hr
  refine sk (sq (sq (rg (a1 rfl (on ?_)))))
  obtain ⟨e36, hl37, hr38⟩ := bd_some hr6
  refine jn (fun a w => ∃ t39, e36 = .inl t39 ∧ St M W H [H] [] w ∧ Has [] 41 a []) ?_ ?_
  ·refine bk ?_
   refine lp hl37 (fun s40 a w => St M W H [H] [] w ∧ Has [] 41 a [(0, .slice ad_a_0 a_0.length cap_a_0), (1, .slice ad_b_1 b_1.length cap_b_1), (5, .int .i64 (s40 : Int))]) ?_ ?_
   ·exact cu ⟨rfl, rfl, rfl, tv⟩
   ·rintro j s40 y43 hr41 hz42 a w ⟨hS, hA⟩
    refine TG.ap ?_ hS hA
    unfold m41_1 at hr41
    refine sq (sq (rg (m1 rfl (m1 rfl (lnL U49 rfl rfl (ltI rfl rfl rfl (on ?_)))))))
    refine ci rfl (fun hc47 => ?_) (fun hc47 => ?_)
    ·have hr48 := if_p hc47 hr41
     refine sk (sq (bk (sq ?_)))
     obtain ⟨t95, hx96, hr97⟩ := bd_some hr48
     refine jn (fun a w => St M W H [H] [] w ∧ Has [] 41 a [(0, .slice ad_a_0 a_0.length cap_a_0), (1, .slice ad_b_1 b_1.length cap_b_1), (5, .int .i64 (s40 : Int)), (40, .bool t95)]) ?_ ?_
     ·obtain ⟨x98, hx99, hr100⟩ := bd_some hx96
      obtain ⟨p101, rfl⟩ := h_a_0.adr hx99
      obtain ⟨cs102, hcs103, hq104, hr105⟩ := h_a_0.at hx99
      obtain rfl := hr105
      obtain ⟨x106, hx107, hr108⟩ := bd_some hr100
      obtain ⟨p109, rfl⟩ := h_b_1.adr hx107
      obtain ⟨cs110, hcs111, hq112, hr113⟩ := h_b_1.at hx107
      obtain rfl := hr113
      by_cases hb114 : x98.kind ≠ x106.kind
      ·have hr115 := if_p hb114 hr108
       refine drG 22 mixed (by kernel_rfl) rfl (dt rfl (m1 rfl fin1) (dt rfl (m1 rfl fin1) (dt rfl (iaP U49 Z79 rfl rfl rfl rfl (lt_of hx99) fin1) (dt rfl (fb 0 U79 rfl rfl rfl rfl Z5 fin1) (dt rfl (ld G5 rfl rfl ((sS 1 rfl hq104).take 1) rfl fin1) (dt rfl (m1 rfl fin1) (dt rfl (m1 rfl fin1) (dt rfl (iaP U44 Z113 rfl rfl rfl rfl (lt_of hx107) fin1) (dt rfl (fb 0 U113 rfl rfl rfl rfl Z5 fin1) (dt rfl (ld G5 rfl rfl ((sS 1 rfl hq112).take 1) rfl fin1) (dt rfl (neI rfl rfl rfl fin1) ?_)))))))))))
       refine dt rfl (m1 rfl fin1) (dt rfl (gf' hb114 rfl fin1) (dt rfl (gf' hb114 rfl fin1) (dt rfl (gf' hb114 rfl fin1) (dt rfl (gf' hb114 rfl fin1) (dt rfl (gf' hb114 rfl fin1) (dt rfl (gf' hb114 rfl fin1) (dt rfl (gf' hb114 rfl fin1) (dt rfl (gf' hb114 rfl fin1) (dt rfl (gf' hb114 rfl fin1) (dt rfl (gf' hb114 rfl fin1) (DF.nil fun K116 hF => ?_)))))))))))
       refine gf' hb114 rfl (pt hb114 rfl rfl (on ?_))
       cases hr115
       intro a w hS hA
       exact ⟨hS.selH [1] rfl, hA.cut ⟨rfl, rfl, rfl, rfl, tv⟩⟩
      ·have hr117 := if_n hb114 hr108
       refine drG 22 mixed (by kernel_rfl) rfl (dt rfl (m1 rfl fin1) (dt rfl (m1 rfl fin1) (dt rfl (iaP U49 Z79 rfl rfl rfl rfl (lt_of hx99) fin1) (dt rfl (fb 0 U79 rfl rfl rfl rfl Z5 fin1) (dt rfl (ld G5 rfl rfl ((sS 1 rfl hq104).take 1) rfl fin1) (dt rfl (m1 rfl fin1) (dt rfl (m1 rfl fin1) (dt rfl (iaP U44 Z113 rfl rfl rfl rfl (lt_of hx107) fin1) (dt rfl (fb 0 U113 rfl rfl rfl rfl Z5 fin1) (dt rfl (ld G5 rfl rfl ((sS 1 rfl hq112).take 1) rfl fin1) (dt rfl (neI rfl rfl rfl fin1) ?_)))))))))))
       refine dt rfl (m1 rfl fin1) (dt rfl (gt' hb114 rfl (m1 rfl fin1)) (dt rfl (gt' hb114 rfl (m1 rfl fin1)) (dt rfl (gt' hb114 rfl (iaP U49 Z79 rfl rfl rfl rfl (lt_of hx99) fin1)) (dt rfl (gt' hb114 rfl (fb 1 U79 rfl rfl rfl rfl Z3 fin1)) (dt rfl (gt' hb114 rfl (ld G3 rfl rfl ((sS 1 rfl hq104).drop 1) rfl fin1)) (dt rfl (gt' hb114 rfl (m1 rfl fin1)) (dt rfl (gt' hb114 rfl (m1 rfl fin1)) (dt rfl (gt' hb114 rfl (iaP U44 Z113 rfl rfl rfl rfl (lt_of hx107) fin1)) (dt rfl (gt' hb114 rfl (fb 1 U113 rfl rfl rfl rfl Z3 fin1)) (dt rfl (gt' hb114 rfl (ld G3 rfl rfl ((sS 1 rfl hq112).drop 1) rfl fin1)) (DF.nil fun K118 hF => ?_)))))))))))
       refine gt' hb114 rfl (neI rfl rfl rfl (pf hb114 rfl rfl (on ?_)))
       cases hr117
       intro a w hS hA
       exact ⟨hS.selH [1] rfl, hA.cut ⟨rfl, rfl, rfl, rfl, tv⟩⟩
     ·rintro a w ⟨hS, hA⟩
      refine TG.ap ?_ hS hA
      refine cb rfl (fun hc122 => ?_) (fun hc122 => ?_)
      ·have hr123 := if_p hc122 hr97
       refine sq (rg (a1 rfl (on (rt_ ?_))))
       cases hr123
       obtain rfl := Fin.out hz42
       cases hr38
       intro a w hS hA
       refine ret1 hA rfl rfl ?_
       exact ⟨rfl, hS.ext⟩
      ·have hr124 := if_f hc122 hr97
       refine sk (rg (m1 rfl (adI rfl rfl rfl (by omega) (a1 rfl (on ?_)))))
       cases hr124
       intro a w hS hA
       exact ⟨_, hz42, hS, hA.cut ⟨rfl, rfl, rfl, tv⟩⟩
    ·have hr125 := if_n hc47 hr41
     refine xt rfl ?_
     cases hr125
     obtain rfl := Fin.out hz42
     intro a w hS hA
     exact ⟨_, rfl, hS, hA.cut tv⟩
  ·rintro a w ⟨t39, rfl, hS, hA⟩
   refine TG.ap ?_ hS hA
   refine sq (rg (a1 rfl (on (rt_ ?_))))
   cases hr38
   intro a w hS hA
   refine ret1 hA rfl rfl ?_
   exact ⟨rfl, hS.ext⟩

theorem w50 {M : Prop} {W : World} {H : Hp} (hH : H.le (hp W)) {ad_a_0 : Option Addr} {cap_a_0 : Nat} {a_0 : List Int} (h_a_0 : Sl (Flat (encI .i64)) 1 H ad_a_0 cap_a_0 a_0) {ad_b_1 : Option Addr} {cap_b_1 : Nat} {b_1 : List Int} (h_b_1 : Sl (Flat (encI .i64)) 1 H ad_b_1 cap_b_1 b_1) {r : Bool} (hr : m50 a_0 b_1 = some r) : Calls Tryz.prog 50 [.slice ad_a_0 a_0.length cap_a_0, .slice ad_b_1 b_1.length cap_b_1].toArray W (RetS M W (.bool r)) := by
 have := h_a_0.len
 have := h_b_1.len
 unfold m50 at hr
 refine enterG (M := M) Tryz.func50 rfl Tryz.ntmps50 rfl hH ?_
 refine sq (rg (a1 rfl (on (sq (sq (rg (m1 rfl (lnL U59 rfl rfl (m1 rfl (lnL U59 rfl rfl (neI rfl rfl rfl ?_)))))))))))
 refine on ?_
 refine ci rfl (fun hc4 => ?_) (fun hc4 => ?_)
 ·have hr5 := if_p hc4 hr
  refine sq (rg (a1 rfl (on (rt_ ?_))))
  cases hr5
  intro a w hS hA
  refine ret1 hA rfl rfl ?_
  exact ⟨rfl, hS.ext⟩
 ·have hr6 := if_n hc4 hr
  refine sk (sq (sq (rg (a1 rfl (on ?_)))))
  obtain ⟨e31, hl32, hr33⟩ := bd_some hr6
  refine jn (fun a w => ∃ t34, e31 = .inl t34 ∧ St M W H [H] [] w ∧ Has [] 26 a []) ?_ ?_
  ·refine bk ?_
   refine lp hl32 (fun s35 a w => St M W H [H] [] w ∧ Has [] 26 a [(0, .slice ad_a_0 a_0.length cap_a_0), (1, .slice ad_b_1 b_1.length cap_b_1), (5, .int .i64 (s35 : Int))]) ?_ ?_
   ·exact cu ⟨rfl, rfl, rfl, tv⟩
   ·rintro j s35 y38 hr36 hz37 a w ⟨hS, hA⟩
    refine TG.ap ?_ hS hA
    unfold m50_1 at hr36
    refine sq (sq (rg (m1 rfl (m1 rfl (lnL U59 rfl rfl (ltI rfl rfl rfl (on ?_)))))))
    refine ci rfl (fun hc42 => ?_) (fun hc42 => ?_)
    ·have hr43 := if_p hc42 hr36
     refine sk (sq (bk (sq ?_)))
     obtain ⟨x64, hx65, hr66⟩ := bd_some hr43
     obtain ⟨p67, rfl⟩ := h_a_0.adr hx65
     obtain ⟨cs68, hcs69, hq70, hr71⟩ := h_a_0.at hx65
     obtain rfl := hr71
     obtain ⟨x72, hx73, hr74⟩ := bd_some hr66
     obtain ⟨p75, rfl⟩ := h_b_1.adr hx73
     obtain ⟨cs76, hcs77, hq78, hr79⟩ := h_b_1.at hx73
     obtain rfl := hr79
     refine drG 8 mixed (by kernel_rfl) rfl (dt rfl (m1 rfl fin1) (dt rfl (m1 rfl fin1) (dt rfl (iaP U59 Z31 rfl rfl rfl rfl (lt_of hx65) fin1) (dt rfl (ld G31 rfl rfl (sS 1 rfl hq70) rfl fin1) (dt rfl (m1 rfl fin1) (dt rfl (m1 rfl fin1) (dt rfl (iaP U59 Z31 rfl rfl rfl rfl (lt_of hx73) fin1) (dt rfl (ld G31 rfl rfl (sS 1 rfl hq78) rfl fin1) (DF.nil fun K80 hF => (neI rfl rfl rfl (on ?_)))))))))))
     refine ci rfl (fun hc84 => ?_) (fun hc84 => ?_)
     ·have hr85 := if_p hc84 hr74
      refine sq (rg (a1 rfl (on (rt_ ?_))))
      cases hr85
      obtain rfl := Fin.out hz37
      cases hr33
      intro a w hS hA
      refine ret1 hA rfl rfl ?_
      exact ⟨rfl, hS.ext⟩
     ·have hr86 := if_n hc84 hr74
      refine sk (rg (m1 rfl (adI rfl rfl rfl (by omega) (a1 rfl (on ?_)))))
      cases hr86
      intro a w hS hA
      exact ⟨_, hz37, hS.selH [1] rfl, hA.cut ⟨rfl, rfl, rfl, tv⟩⟩
    ·have hr87 := if_n hc42 hr36
     refine xt rfl ?_
     cases hr87
     obtain rfl := Fin.out hz37
     intro a w hS hA
     exact ⟨_, rfl, hS, hA.cut tv⟩
  ·rintro a w ⟨t34, rfl, hS, hA⟩
   refine TG.ap ?_ hS hA
   refine sq (rg (a1 rfl (on (rt_ ?_))))
   cases hr33
   intro a w hS hA
   refine ret1 hA rfl rfl ?_
   exact ⟨rfl, hS.ext⟩

theorem w17 {M : Prop} {W : World} {H : Hp} (hH : H.le (hp W)) (hg : Gv M H)  {r : Bool} (hr : m17 = some r) : Calls Tryz.prog 17 [].toArray W (RetS M W (.bool r)) := by
 unfold m17 at hr
 refine enterG (M := M) Tryz.func17 rfl Tryz.ntmps17 rfl hH ?_
 refine sq (rg (a1 rfl (on (sq (rg ?_)))))
 obtain ⟨r1, hx2, hr3⟩ := bd_some hr
 refine clK C48 rfl rfl rfl rfl (fun w H hH le => w48 hH  hx2) ?_
 rintro v_ K4 ⟨cs5, ad7, cap8, rfl, hr6, hl9⟩
 have hr10 := hr6
 obtain ⟨ad11, cap12, ad14, cap15, ad17, cap18, rfl, hl13, hl16, hl19⟩ := hr6
 have := hl13.len
 have := hl16.len
 have := hl19.len
 have := hl9.len
 refine m1 rfl (ex rfl rfl rfl (ex rfl rfl rfl (va (cs := [.slice ad11 r1.1.numbers.length cap12, .slice ad14 r1.1.names.length cap15, .slice ad17 r1.1.nots.length cap18]) Tryz.zeroValue36 Z36 rfl rfl rfl rfl rfl rfl rfl rfl fun q20 K21 hK22 => (a1 rfl (on (sq (rg (ldA G36 Z36 rfl rfl (sS 0 rfl hK22) rfl (bS (cs := [.string (bs [83, 109, 121, 116, 104]), .string (bs [100, 105, 100]), .string (bs [110, 111, 116]), .string (bs [112, 97, 121]), .string (bs [116, 101, 110]), .string (bs [48, 48, 55]), .string (bs [56])]) T4.E24 rfl rfl rfl rfl fun q23 K24 hq25 hK26 => ?_)))))))))
 have hl27 : Sl (Flat encS) 1 K24 (some q23) 7 ([[83, 109, 121, 116, 104], [100, 105, 100], [110, 111, 116], [112, 97, 121], [116, 101, 110], [48, 48, 55], [56]] : List Bytes) := Sl.litR (css := [[.string (bs [83, 109, 121, 116, 104])], [.string (bs [100, 105, 100])], [.string (bs [110, 111, 116])], [.string (bs [112, 97, 121])], [.string (bs [116, 101, 110])], [.string (bs [48, 48, 55])], [.string (bs [56])]]) (l := ([[83, 109, 121, 116, 104], [100, 105, 100], [110, 111, 116], [112, 97, 121], [116, 101, 110], [48, 48, 55], [56]] : List Bytes)) ⟨⟨rfl, rfl, rfl⟩, ⟨rfl, rfl, rfl⟩, ⟨rfl, rfl, rfl⟩, ⟨rfl, rfl, rfl⟩, ⟨rfl, rfl, rfl⟩, ⟨rfl, rfl, rfl⟩, ⟨rfl, rfl, rfl⟩, tv⟩ hq25 hK26 rfl
 have := hl27.len
 obtain ⟨r28, hx29, hr30⟩ := bd_some hr3
 refine clK C26 rfl rfl rfl rfl (fun w H hH le => w26 hH (hg.mono (le.at 3 rfl)) r1.1 (RLexicon.mono _ _ _ _ (le.at 2 rfl) hr10) (hl27.mono (Flat.mono _) (le.at 0 rfl)) hx29) ?_
 rintro v_ K31 ⟨ad32, cap33, rfl, hl34⟩
 have := hl34.len
 refine m1 rfl (ex rfl rfl rfl (ex rfl rfl rfl (a1 rfl (a1 rfl (on (sq (rg (ldA G36 Z36 rfl rfl (sS 2 rfl hK22) rfl (m1 rfl (bS (cs := [.string (bs [110, 111, 116]), .string (bs [116, 101, 110])]) T4.E24 rfl rfl rfl rfl fun q35 K36 hq37 hK38 => ?_))))))))))
 have hl39 : Sl (Flat encS) 1 K36 (some q35) 2 ([[110, 111, 116], [116, 101, 110]] : List Bytes) := Sl.litR (css := [[.string (bs [110, 111, 116])], [.string (bs [116, 101, 110])]]) (l := ([[110, 111, 116], [116, 101, 110]] : List Bytes)) ⟨⟨rfl, rfl, rfl⟩, ⟨rfl, rfl, rfl⟩, tv⟩ hq37 hK38 rfl
 have := hl39.len
 refine bS (cs := [.string (bs [110, 101, 118, 101, 114]), .string (bs [49, 50])]) T4.E24 rfl rfl rfl rfl fun q40 K41 hq42 hK43 => ?_
 have hl44 : Sl (Flat encS) 1 K41 (some q40) 2 ([[110, 101, 118, 101, 114], [49, 50]] : List Bytes) := Sl.litR (css := [[.string (bs [110, 101, 118, 101, 114])], [.string (bs [49, 50])]]) (l := ([[110, 101, 118, 101, 114], [49, 50]] : List Bytes)) ⟨⟨rfl, rfl, rfl⟩, ⟨rfl, rfl, rfl⟩, tv⟩ hq42 hK43 rfl
 have := hl44.len
 obtain ⟨r45, hx46, hr47⟩ := bd_some hr30
 refine clS C18 rfl rfl rfl rfl (fun w H hH le => w18 hH (hg.mono (le.at 6 rfl)) r1.1 (RLexicon.mono _ _ _ _ (le.at 5 rfl) hr10) (hl9.mono (Flat.mono _) (le.at 5 rfl)) (hl39.mono (Flat.mono _) (le.at 1 rfl)) (hl44.mono (Flat.mono _) (le.at 0 rfl)) hx46) (m1 rfl (ex rfl rfl rfl (ex rfl rfl rfl (a1 rfl (a1 rfl (on (sq (rg ?_))))))))
 obtain ⟨r48, hx49, hr50⟩ := bd_some hr47
 refine clK C49 rfl rfl rfl rfl (fun w H hH le => w49 hH  hx49) ?_
 rintro v_ K51 ⟨cs52, ad54, cap55, rfl, hr53, hl56⟩
 have hr57 := hr53
 obtain ⟨ad58, cap59, rfl, hl60⟩ := hr53
 have := hl60.len
 have := hl56.len
 refine m1 rfl (ex rfl rfl rfl (ex rfl rfl rfl (va (cs := [.slice ad58 r48.1.words.length cap59, .int .i64 r48.1.out, .int .i64 r48.1.within]) Tryz.zeroValue56 Z56 rfl rfl rfl rfl rfl rfl rfl rfl fun q61 K62 hK63 => (a1 rfl (on (sq (rg (ldA G36 Z36 rfl rfl (sS 6 rfl hK22) rfl (m1 rfl (ldA G56 Z56 rfl rfl (sS 0 rfl hK63) rfl (m1 rfl ?_)))))))))))
 obtain ⟨r64, hx65, hr66⟩ := bd_some hr50
 refine clK C29 rfl rfl rfl rfl (fun w H hH le => w29 hH (hg.mono (le.at 8 rfl)) r1.1 (RLexicon.mono _ _ _ _ (le.at 7 rfl) hr10) (hl9.mono (Flat.mono _) (le.at 7 rfl)) r48.1 (RReport.mono _ _ _ _ (le.at 1 rfl) hr57) (hl56.mono (RRequest.mono) (le.at 1 rfl)) hx65) ?_
 rintro v_ K67 ⟨ad68, cap69, rfl, hl70⟩
 have := hl70.len
 refine m1 rfl (ex rfl rfl rfl (ex rfl rfl rfl (a1 rfl (a1 rfl (on (sq ?_))))))
 obtain ⟨t102, hx103, hr104⟩ := bd_some hr66
 refine jn (fun a w => St M W H [K67, K62, K51, K41, K36, K31, K24, K21, K4, H] [] w ∧ Has [] 69 a [(0, .bool t102)]) ?_ ?_
 ·refine rg (m1 rfl (eqI rfl rfl rfl (m1 rfl ?_)))
  by_cases hb105 : r28.2 = 0
  ·have hr106 := if_p hb105 hx103
   refine gt hb105 rfl (m1 rfl (gt hb105 rfl (bu (cs := [.int .u8 2, .int .i64 0]) T4.B113 rfl rfl rfl (gt hb105 rfl (bu (cs := [.int .u8 3, .int .i64 0]) T4.B113 rfl rfl rfl (gt hb105 rfl (bu (cs := [.int .u8 1, .int .i64 10]) T4.B113 rfl rfl rfl (gt hb105 rfl (bu (cs := [.int .u8 1, .int .i64 8]) T4.B113 rfl rfl rfl (gt hb105 rfl (bS (cs := [.int .u8 2, .int .i64 0, .int .u8 3, .int .i64 0, .int .u8 1, .int .i64 10, .int .u8 1, .int .i64 8]) T4.E44 rfl rfl rfl rfl fun q107 K108 hq109 hK110 => ?_)))))))))))
   have hl111 : Sl (Flat encMark) 2 K108 (some q107) 4 ([(⟨2, 0⟩ : Mark), (⟨3, 0⟩ : Mark), (⟨1, 10⟩ : Mark), (⟨1, 8⟩ : Mark)] : List Mark) := Sl.litR (css := [[.int .u8 2, .int .i64 0], [.int .u8 3, .int .i64 0], [.int .u8 1, .int .i64 10], [.int .u8 1, .int .i64 8]]) (l := ([(⟨2, 0⟩ : Mark), (⟨3, 0⟩ : Mark), (⟨1, 10⟩ : Mark), (⟨1, 8⟩ : Mark)] : List Mark)) ⟨⟨rfl, rfl, rfl⟩, ⟨rfl, rfl, rfl⟩, ⟨rfl, rfl, rfl⟩, ⟨rfl, rfl, rfl⟩, tv⟩ hq109 hK110 rfl
   have := hl111.len
   refine gt hb105 rfl ?_
   obtain ⟨r112, hx113, hr114⟩ := bd_some hr106
   refine clS C41 rfl rfl rfl rfl (fun w H hH le => w41 hH (hl34.mono (Flat.mono _) (le.at 6 rfl)) (hl111.mono (Flat.mono _) (le.at 0 rfl)) hx113) (pt hb105 rfl rfl (m1 rfl ?_))
   rcases Bool.eq_false_or_eq_true (r112) with hb115 | hb115
   ·have hr116 := if_p hb115 hr114
    refine gN rfl rfl (hb115) (m1 rfl (gN rfl rfl (hb115) (eqI rfl rfl rfl (pT rfl rfl (hb115) rfl (m1 rfl ?_)))))
    by_cases hb117 : r45.2 = 0
    ·have hr118 := if_p hb117 hr116
     refine gt hb117 rfl (m1 rfl (gt hb117 rfl (eqI rfl rfl rfl (pt hb117 rfl rfl (m1 rfl ?_)))))
     by_cases hb119 : r45.1 = 0
     ·have hr120 := if_p hb119 hr118
      refine gt hb119 rfl (m1 rfl (gt hb119 rfl (eqI rfl rfl rfl (pt hb119 rfl rfl (m1 rfl ?_)))))
      by_cases hb121 : r64.2 = 0
      ·have hr122 := if_p hb121 hr120
       refine gt hb121 rfl (m1 rfl (gt hb121 rfl (bS (cs := [.int .i64 0, .int .i64 0, .int .i64 5, .int .i64 11, .int .i64 9]) T4.E59 rfl rfl rfl rfl fun q123 K124 hq125 hK126 => ?_)))
       have hl127 : Sl (Flat (encI .i64)) 1 K124 (some q123) 5 ([0, 0, 5, 11, 9] : List Int) := Sl.litR (css := [[.int .i64 0], [.int .i64 0], [.int .i64 5], [.int .i64 11], [.int .i64 9]]) (l := ([0, 0, 5, 11, 9] : List Int)) ⟨⟨rfl, rfl, rfl⟩, ⟨rfl, rfl, rfl⟩, ⟨rfl, rfl, rfl⟩, ⟨rfl, rfl, rfl⟩, ⟨rfl, rfl, rfl⟩, tv⟩ hq125 hK126 rfl
       have := hl127.len
       refine gt hb121 rfl ?_
       obtain ⟨r128, hx129, hr130⟩ := bd_some hr122
       refine clS C50 rfl rfl rfl rfl (fun w H hH le => w50 hH (hl70.mono (Flat.mono _) (le.at 2 rfl)) (hl127.mono (Flat.mono _) (le.at 0 rfl)) hx129) (pt hb121 rfl rfl (a1 rfl (on ?_)))
       cases hr130
       intro a w hS hA
       exact ⟨hS.selH [2, 3, 4, 5, 6, 7, 8, 9, 10, 11] rfl, hA.cut ⟨rfl, tv⟩⟩
      ·have hr131 := if_n hb121 hr120
       refine gf hb121 rfl (gf hb121 rfl (gf hb121 rfl (pf hb121 rfl rfl (a1 rfl (on ?_)))))
       cases hr131
       intro a w hS hA
       exact ⟨hS.selH [1, 2, 3, 4, 5, 6, 7, 8, 9, 10] rfl, hA.cut ⟨rfl, tv⟩⟩
     ·have hr132 := if_n hb119 hr118
      refine gf hb119 rfl (gf hb119 rfl (pf hb119 rfl rfl (m1 rfl (gF rfl rfl rfl rfl (gF rfl rfl rfl rfl (gF rfl rfl rfl rfl (pF rfl rfl rfl rfl (a1 rfl (on ?_)))))))))
      cases hr132
      intro a w hS hA
      exact ⟨hS.selH [1, 2, 3, 4, 5, 6, 7, 8, 9, 10] rfl, hA.cut ⟨rfl, tv⟩⟩
    ·have hr133 := if_n hb117 hr116
     refine gf hb117 rfl (gf hb117 rfl (pf hb117 rfl rfl (m1 rfl (gF rfl rfl rfl rfl (gF rfl rfl rfl rfl (pF rfl rfl rfl rfl (m1 rfl (gF rfl rfl rfl rfl (gF rfl rfl rfl rfl (gF rfl rfl rfl rfl (pF rfl rfl rfl rfl ?_)))))))))))
     refine a1 rfl (on ?_)
     cases hr133
     intro a w hS hA
     exact ⟨hS.selH [1, 2, 3, 4, 5, 6, 7, 8, 9, 10] rfl, hA.cut ⟨rfl, tv⟩⟩
   ·have hr134 := if_f hb115 hr114
    refine gF rfl rfl (hb115) rfl (gF rfl rfl (hb115) rfl (pF rfl rfl (hb115) rfl (m1 rfl (gF rfl rfl rfl rfl (gF rfl rfl rfl rfl (pF rfl rfl rfl rfl (m1 rfl (gF rfl rfl rfl rfl (gF rfl rfl rfl rfl (pF rfl rfl rfl rfl (m1 rfl ?_)))))))))))
    refine gF rfl rfl rfl rfl (gF rfl rfl rfl rfl (gF rfl rfl rfl rfl (pF rfl rfl rfl rfl (a1 rfl (on ?_)))))
    cases hr134
    intro a w hS hA
    exact ⟨hS.selH [1, 2, 3, 4, 5, 6, 7, 8, 9, 10] rfl, hA.cut ⟨rfl, tv⟩⟩
  ·have hr135 := if_n hb105 hx103
   refine gf hb105 rfl (gf hb105 rfl (gf hb105 rfl (gf hb105 rfl (gf hb105 rfl (gf hb105 rfl (gf hb105 rfl (pf hb105 rfl rfl (m1 rfl (gF rfl rfl rfl rfl (gF rfl rfl rfl rfl (pF rfl rfl rfl rfl ?_)))))))))))
   refine m1 rfl (gF rfl rfl rfl rfl (gF rfl rfl rfl rfl (pF rfl rfl rfl rfl (m1 rfl (gF rfl rfl rfl rfl (gF rfl rfl rfl rfl (pF rfl rfl rfl rfl (m1 rfl (gF rfl rfl rfl rfl (gF rfl rfl rfl rfl (gF rfl rfl rfl rfl ?_)))))))))))
   refine pF rfl rfl rfl rfl (a1 rfl (on ?_))
   cases hr135
   exact cu ⟨rfl, tv⟩
 ·rintro a w ⟨hS, hA⟩
  refine TG.ap ?_ hS hA
  refine rt_ ?_
  cases hr104
  intro a w hS hA
  refine ret1 hA rfl rfl ?_
  exact ⟨rfl, hS.ext⟩

theorem w21 {M : Prop} {W : World} {H : Hp} (hH : H.le (hp W)) {ad_l_0 : Option Addr} {cap_l_0 : Nat} {l_0 : List Bytes} (h_l_0 : Sl (Flat encS) 1 H ad_l_0 cap_l_0 l_0) {r : List Bytes} (hr : m21 l_0 = some r) : Calls Tryz.prog 21 [.slice ad_l_0 l_0.length cap_l_0].toArray W (RetK M H W (fun v K => ∃ (ad0 : Option Addr) (cap0 : Nat), v = .slice ad0 r.length cap0 ∧ Sl (Flat encS) 1 K ad0 cap0 r)) := by
 have := h_l_0.len
 unfold m21 at hr
 refine enterG (M := M) Tryz.func21 rfl Tryz.ntmps21 rfl hH ?_
 refine sq (rg (a1 rfl (on (sq (rg (m1 rfl (TG.nilRow 1 9 1 ?_)))))))
 obtain ⟨hk1, hr2⟩ := chk_some hr
 have := lenA ([] : List Bytes) l_0
 refine apS 1 (enc := encS) (l := ([] : List Bytes)) (m := l_0) T4.E24 rfl rfl rfl rfl rfl rfl h_l_0 0 rfl (fun _ => rfl) (fun _ => rfl) rfl hk1 fun ad3 cap4 => (a1 rfl (on (rt_ ?_)))
 cases hr2
 intro a w hS hA
 refine ret1 hA rfl rfl ?_
 exact ⟨⟨_, _, rfl, (hS.listOut 1 rfl (fun _ => rfl))⟩, hS.ext⟩

theorem w19 {M : Prop} {W : World} {H : Hp} (hH : H.le (hp W)) {cs_l_0 : List Value} (l_0 : Lexicon) (h_l_0 : (RLexicon) H cs_l_0 l_0) {r : Lexicon} (hr : m19 l_0 = some r) : Calls Tryz.prog 19 [.agg cs_l_0.toArray].toArray W (RetK M H W (fun v K => ∃ (cs0 : List Value), v = .agg cs0.toArray ∧ (RLexicon) K cs0 r)) := by
 have hh_l_0 := h_l_0
 obtain ⟨ad1, cap2, ad4, cap5, ad7, cap8, rfl, hl3, hl6, hl9⟩ := h_l_0
 have := hl3.len
 have := hl6.len
 have := hl9.len
 unfold m19 at hr
 refine enterG (M := M) Tryz.func19 rfl Tryz.ntmps19 rfl hH ?_
 refine sq (rg (bI (cs := [.slice ad1 l_0.numbers.length cap2, .slice ad4 l_0.names.length cap5, .slice ad7 l_0.nots.length cap8]) rfl rfl rfl fun q10 K11 hK12 => (al 1 (cs := [.slice none 0 0, .slice none 0 0, .slice none 0 0]) Tryz.zeroValue36 rfl rfl fun b13 => (on (sq (rg (fb 2 U26 rfl rfl rfl rfl Z24 (ld G24 rfl rfl ((sS 0 rfl hK12).drop 2) rfl ?_))))))))
 obtain ⟨r14, hx15, hr16⟩ := bd_some hr
 refine clK C21 rfl rfl rfl rfl (fun w H hH le => w21 hH (hl9.mono (Flat.mono _) (le.at 1 rfl)) hx15) ?_
 rintro v_ K17 ⟨ad18, cap19, rfl, hl20⟩
 have := hl20.len
 refine bu (cs := [.slice none 0 0, .slice none 0 0, .slice ad18 r14.length cap19]) T4.B36 rfl rfl rfl (al 2 (cs := [.slice none 0 0, .slice none 0 0, .slice none 0 0]) Tryz.zeroValue36 rfl rfl fun b21 => (sto 2 (cs := [.slice none 0 0, .slice none 0 0, .slice ad18 r14.length cap19]) Z36 rfl rfl rfl rfl rfl rfl rfl (on (sq (sq (rg (a1 rfl (on (TG.nilRow 4 123 2 (TG.as 4 (z := Own.list none 0 123 2 encNumber ([] : List Number)) rfl rfl ?_))))))))))
 obtain ⟨e103, hl104, hr105⟩ := bd_some hr16
 refine jn (fun a w => ∃ (ad106 : Option Addr) (cap107 : Nat), St M W H [K17, K11, H] [(4, Own.list ad106 cap107 123 2 encNumber e103), (2, cel b21 36 [.slice ad106 e103.length cap107, .slice none 0 0, .slice ad18 r14.length cap19]), (1, cel b13 36 [.slice none 0 0, .slice none 0 0, .slice none 0 0])] w ∧ Has [] 54 a [(1, .pointer (some q10)), (2, .pointer (some (⟨b13, 0, none⟩))), (3, .pointer (some (⟨b21, 0, none⟩)))]) ?_ ?_
 ·refine bk ?_
  refine lp hl104 (fun s108 a w => ∃ (ad109 : Option Addr) (cap110 : Nat), St M W H [K17, K11, H] [(4, Own.list ad109 cap110 123 2 encNumber s108.2), (2, cel b21 36 [.slice ad109 s108.2.length cap110, .slice none 0 0, .slice ad18 r14.length cap19]), (1, cel b13 36 [.slice none 0 0, .slice none 0 0, .slice none 0 0])] w ∧ Has [] 54 a [(1, .pointer (some q10)), (2, .pointer (some (⟨b13, 0, none⟩))), (3, .pointer (some (⟨b21, 0, none⟩))), (4, .int .i64 (s108.1 : Int))]) ?_ ?_
  ·intro a w hS hA
   exact ⟨none, 0, hS, hA.cut ⟨rfl, rfl, rfl, rfl, tv⟩⟩
  ·rintro j s108 y113 hr111 hz112 a w ⟨ad109, cap110, hS, hA⟩
   refine TG.ap ?_ hS hA
   unfold m19_1 at hr111
   refine sq (sq (rg (m1 rfl (fb 0 U26 rfl rfl rfl rfl Z22 (ld G22 rfl rfl ((sS 1 rfl hK12).take 1) rfl (lnL U22 rfl rfl (ltI rfl rfl rfl (on ?_))))))))
   refine ci rfl (fun hc117 => ?_) (fun hc117 => ?_)
   ·have hr118 := if_p hc117 hr111
    refine sk (sq (bk ?_))
    obtain ⟨x140, hx141, hr142⟩ := bd_some hr118
    obtain ⟨p143, rfl⟩ := hl3.adr hx141
    obtain ⟨cs144, hcs145, hq146, hr147⟩ := hl3.at hx141
    obtain rfl := hr147
    refine drG 16 mixed (by kernel_rfl) rfl (dt rfl (fb 0 U36 rfl rfl rfl rfl Z34 fin1) (dt rfl (ld G34 rfl rfl ((sO 2 rfl).take 1) rfl fin1) (dt rfl (fb 0 U26 rfl rfl rfl rfl Z22 fin1) (dt rfl (ld G22 rfl rfl ((sS 2 rfl hK12).take 1) rfl fin1) (dt rfl (m1 rfl fin1) (dt rfl (iaP U22 Z112 rfl rfl rfl rfl (lt_of hx141) fin1) (dt rfl (fb 0 U112 rfl rfl rfl rfl Z9 fin1) (dt rfl (ld G9 rfl rfl ((sS 3 rfl hq146).take 1) rfl fin1) (dt rfl (fb 0 U26 rfl rfl rfl rfl Z22 fin1) (dt rfl (ld G22 rfl rfl ((sS 2 rfl hK12).take 1) rfl fin1) (dt rfl (m1 rfl fin1) ?_)))))))))))
    refine dt rfl (iaP U22 Z112 rfl rfl rfl rfl (lt_of hx141) fin1) (dt rfl (fb 1 U112 rfl rfl rfl rfl Z3 fin1) (dt rfl (ld G3 rfl rfl ((sS 3 rfl hq146).drop 1) rfl fin1) (dt rfl (bu (cs := [.string (bs x140.text), .int .i64 x140.value]) T4.B123 rfl rfl rfl fin1) ?_)))
    refine DF.und (α := Option Addr × Nat) (none, 0) (fun q => .slice q.1 1 q.2) (fun (q : Option Addr × Nat) K => Sl (Flat encNumber) 2 K q.1 q.2 ([x140] : List Number)) (fun _ _ _ h x => x.mono (Flat.mono _) h) (by kernel_rfl) rfl (fun a w K hS hA hF => TG.pa hS hA (bS (cs := [.string (bs x140.text), .int .i64 x140.value]) T4.E34 rfl rfl rfl rfl fun q148 K149 hq150 hK151 => by
      have hl152 : Sl (Flat encNumber) 2 K149 (some q148) 1 ([x140] : List Number) := Sl.litR (css := [[.string (bs x140.text), .int .i64 x140.value]]) (l := ([x140] : List Number)) ⟨⟨rfl, rfl, rfl⟩, tv⟩ hq150 hK151 rfl
      have := hl152.len
      exact finU (f := fun q => .slice q.1 1 q.2) (G := (fun (q : Option Addr × Nat) K => Sl (Flat encNumber) 2 K q.1 q.2 ([x140] : List Number))) (_, _) (fun _ _ _ h x => x.mono (Flat.mono _) h) hl152)) ?_
    rintro ⟨ad154, cap155⟩
    refine DF.nil fun K156 hF => ?_
    obtain ⟨hu153, _⟩ := hF
    have := hu153.len
    obtain ⟨hk157, hr158⟩ := chk_some hr142
    have := lenA s108.2 ([x140] : List Number)
    refine apS 4 (enc := encNumber) (l := s108.2) (m := ([x140] : List Number)) T4.E34 rfl rfl rfl rfl rfl rfl hu153 0 rfl (fun _ => rfl) (fun _ => rfl) rfl hk157 fun ad159 cap160 => (fb 0 U36 rfl rfl rfl rfl Z34 (sto 2 (cs := [.slice ad159 ((s108.2 ++ ([x140] : List Number)).length) cap160]) Z34 rfl rfl rfl rfl rfl rfl rfl (on (rg (m1 rfl (adI rfl rfl rfl (by omega) (a1 rfl (on ?_))))))))
    cases hr158
    intro a w hS hA
    exact ⟨_, hz112, ad159, cap160, hS.selH [1, 2, 3] rfl, hA.cut ⟨rfl, rfl, rfl, rfl, tv⟩⟩
   ·have hr161 := if_n hc117 hr111
    refine xt rfl ?_
    cases hr161
    obtain rfl := Fin.out hz112
    intro a w hS hA
    exact ⟨ad109, cap110, hS, hA.cut ⟨rfl, rfl, rfl, tv⟩⟩
 ·rintro a w ⟨ad106, cap107, hS, hA⟩
  refine TG.ap ?_ hS hA
  refine sq (sq (rg (a1 rfl (on (TG.nilRow 6 24 1 ?_)))))
  have hR208 : Rows (RSl (Flat encS) 1) 1 H [] ([] : List (List Bytes)) := tv
  refine TG.as 6 (z := Own.rows none 0 24 1 [] ([] : List (List Bytes))) rfl rfl ?_
  obtain ⟨e314, hl315, hr316⟩ := bd_some hr105
  refine jn (fun a w => ∃ (ad317 : Option Addr) (cap318 : Nat) (css319 : List (List Value)) (K320 : Hp), St M W H [K320, K17, K11, H] [(6, Own.rows ad317 cap318 24 1 css319 e314), (4, Own.list ad106 cap107 123 2 encNumber e103), (2, cel b21 36 [.slice ad106 e103.length cap107, .slice ad317 e314.length cap318, .slice ad18 r14.length cap19]), (1, cel b13 36 [.slice none 0 0, .slice none 0 0, .slice none 0 0])] w ∧ Has [] 54 a [(2, .pointer (some (⟨b13, 0, none⟩))), (3, .pointer (some (⟨b21, 0, none⟩)))] ∧ Rows (RSl (Flat encS) 1) 1 K320 css319 e314) ?_ ?_
  ·refine bk ?_
   refine lp hl315 (fun s322 a w => ∃ (ad323 : Option Addr) (cap324 : Nat) (css325 : List (List Value)) (K326 : Hp), St M W H [K326, K17, K11, H] [(6, Own.rows ad323 cap324 24 1 css325 s322.2), (4, Own.list ad106 cap107 123 2 encNumber e103), (2, cel b21 36 [.slice ad106 e103.length cap107, .slice ad323 s322.2.length cap324, .slice ad18 r14.length cap19]), (1, cel b13 36 [.slice none 0 0, .slice none 0 0, .slice none 0 0])] w ∧ Has [] 54 a [(1, .pointer (some q10)), (2, .pointer (some (⟨b13, 0, none⟩))), (3, .pointer (some (⟨b21, 0, none⟩))), (5, .int .i64 (s322.1 : Int))] ∧ Rows (RSl (Flat encS) 1) 1 K326 css325 s322.2) ?_ ?_
   ·intro a w hS hA
    exact ⟨none, 0, [], H, hS.selH [2, 0, 1, 2] rfl, hA.cut ⟨rfl, rfl, rfl, rfl, tv⟩, hR208⟩
   ·rintro j s322 y330 hr328 hz329 a w ⟨ad323, cap324, css325, K326, hS, hA, hR327⟩
    refine TG.ap ?_ hS hA
    unfold m19_2 at hr328
    refine sq (sq (rg (m1 rfl (fb 1 U26 rfl rfl rfl rfl Z23 (ld G23 rfl rfl (((sS 2 rfl hK12).drop 1).take 1) rfl (lnL U23 rfl rfl (ltI rfl rfl rfl (on ?_))))))))
    refine ci rfl (fun hc334 => ?_) (fun hc334 => ?_)
    ·have hr335 := if_p hc334 hr328
     refine sk (sq (bk ?_))
     obtain ⟨x377, hx378, hr379⟩ := bd_some hr335
     obtain ⟨p380, rfl⟩ := hl6.adr hx378
     obtain ⟨cs381, hcs382, hq383, hr384⟩ := hl6.at hx378
     have hr385 := hr384
     obtain ⟨ad386, cap387, rfl, hl388⟩ := hr384
     have := hl388.len
     obtain ⟨r389, hx390, hr391⟩ := bd_some hr379
     refine drG 9 mixed (by kernel_rfl) rfl (dt rfl (fb 1 U36 rfl rfl rfl rfl Z23 fin1) (dt rfl (ld G23 rfl rfl (((sO 2 rfl).drop 1).take 1) rfl fin1) (dt rfl (fb 1 U26 rfl rfl rfl rfl Z23 fin1) (dt rfl (ld G23 rfl rfl (((sS 3 rfl hK12).drop 1).take 1) rfl fin1) (dt rfl (m1 rfl fin1) (dt rfl (iaP U23 Z24 rfl rfl rfl rfl (lt_of hx378) fin1) (dt rfl (ld G24 rfl rfl (sS 4 rfl hq383) rfl fin1) ?_)))))))
     refine DF.und (α := Option Addr × Nat) (none, 0) (fun q => .slice q.1 r389.length q.2) (fun (q : Option Addr × Nat) K => Sl (Flat encS) 1 K q.1 q.2 r389) (fun _ _ _ h x => x.mono (Flat.mono _) h) (by kernel_rfl) rfl (fun a w K hS hA hF => TG.pa hS hA (clK C21 rfl rfl rfl rfl (fun w H hH le => w21 hH (hl388.mono (Flat.mono _) (le.at 4 rfl)) hx390) (by
       rintro v_ K392 ⟨ad393, cap394, rfl, hl395⟩
       exact finU (f := fun q => .slice q.1 r389.length q.2) (G := (fun (q : Option Addr × Nat) K => Sl (Flat encS) 1 K q.1 q.2 r389)) (_, _) (fun _ _ _ h x => x.mono (Flat.mono _) h) hl395))) ?_
     rintro ⟨ad397, cap398⟩
     refine DF.und (α := Option Addr × Nat) (none, 0) (fun q => .slice q.1 1 q.2) (fun (q : Option Addr × Nat) K => Sl (RSl (Flat encS) 1) 1 K q.1 q.2 ([r389] : List (List Bytes))) (fun _ _ _ h x => x.mono (RSl.mono (Flat.mono _)) h) (by kernel_rfl) rfl (fun a w K hS hA hF => TG.pa hS hA (bS (cs := [.slice ad397 r389.length cap398]) T4.E23 rfl rfl rfl rfl fun q399 K400 hq401 hK402 => by
       refine TG.pack (fun K => Sl (RSl (Flat encS) 1) 1 K (some q399) 1 ([r389] : List (List Bytes))) (fun H le => Sl.litR (css := [[.slice ad397 r389.length cap398]]) (l := ([r389] : List (List Bytes))) ⟨⟨rfl, rfl, ⟨_, _, rfl, ((hF.1 rfl).mono (Flat.mono _) (le.at 1 rfl))⟩⟩, tv⟩ hq401 (hK402.mono (le.at 0 rfl)) rfl) fun K404 hl403 => ?_
       have := hl403.len
       refine sk1 ?_
       exact finU (f := fun q => .slice q.1 1 q.2) (G := (fun (q : Option Addr × Nat) K => Sl (RSl (Flat encS) 1) 1 K q.1 q.2 ([r389] : List (List Bytes)))) (_, _) (fun _ _ _ h x => x.mono (RSl.mono (Flat.mono _)) h) hl403)) ?_
     rintro ⟨ad406, cap407⟩
     refine DF.nil fun K408 hF => ?_
     obtain ⟨hu405, hu396, _⟩ := hF
     have := hu396.len
     have := hu405.len
     obtain ⟨hk409, hr410⟩ := chk_some hr391
     have := lenA s322.2 ([r389] : List (List Bytes))
     refine TG.pack (fun K => Sl (RSl (Flat encS) 1) 1 K ad406 cap407 ([r389] : List (List Bytes)) ∧ Rows (RSl (Flat encS) 1) 1 K css325 s322.2) (fun H le => ⟨hu405.mono (RSl.mono (Flat.mono _)) (le.at 0 rfl), hR327.mono (RSl.mono (Flat.mono _)) (le.at 1 rfl)⟩) fun K413 ⟨hm414, hR415⟩ => (apR 6 (l := s322.2) (m := ([r389] : List (List Bytes))) T4.E23 rfl rfl rfl rfl rfl rfl hm414 hR415 RSl.one rfl hk409 fun ad411 cap412 css417 hR416 => (fb 1 U36 rfl rfl rfl rfl Z23 (sto 2 (cs := [.slice ad411 ((s322.2 ++ ([r389] : List (List Bytes))).length) cap412]) Z23 rfl rfl rfl rfl rfl rfl rfl (on (rg (m1 rfl (adI rfl rfl rfl (by omega) (a1 rfl (on ?_)))))))))
     cases hr410
     intro a w hS hA
     exact ⟨_, hz329, ad411, cap412, css417, K413, hS.selH [0, 3, 4, 5] rfl, hA.cut ⟨rfl, rfl, rfl, rfl, tv⟩, hR416⟩
    ·have hr418 := if_n hc334 hr328
     refine xt rfl ?_
     cases hr418
     obtain rfl := Fin.out hz329
     intro a w hS hA
     exact ⟨ad323, cap324, css325, K326, hS, hA.cut ⟨rfl, rfl, tv⟩, hR327⟩
  ·rintro a w ⟨ad317, cap318, css319, K320, hS, hA, hR321⟩
   refine TG.ap ?_ hS hA
   refine sq (rg (ldA G36 Z36 rfl rfl (sO 2 rfl) rfl (sto 1 (cs := [.slice ad106 e103.length cap107, .slice ad317 e314.length cap318, .slice ad18 r14.length cap19]) Z36 rfl rfl rfl rfl rfl rfl rfl (on (rt_ ?_)))))
   cases hr316
   intro a w hS hA
   refine rc1 hA rfl (ResAt.cell rfl (loadsA G36 Z36 (cell_at (hS.get (t := 1) rfl)) rfl)) ?_
   exact ⟨⟨_, rfl, ⟨_, _, _, _, _, _, rfl, (hS.listOut 4 rfl (fun _ => rfl)), (hS.rowsOut 6 rfl 0 rfl (RSl.mono (Flat.mono _)) hR321), (hl20.mono (Flat.mono _) (hS.grow 1 rfl))⟩⟩, hS.ext⟩

theorem w20 {M : Prop} {W : World} {H : Hp} (hH : H.le (hp W)) {ad_l_0 : Option Addr} {cap_l_0 : Nat} {l_0 : List Swap} (h_l_0 : Sl (Flat encSwap) 3 H ad_l_0 cap_l_0 l_0) {r : List Swap} (hr : m20 l_0 = some r) : Calls Tryz.prog 20 [.slice ad_l_0 l_0.length cap_l_0].toArray W (RetK M H W (fun v K => ∃ (ad0 : Option Addr) (cap0 : Nat), v = .slice ad0 r.length cap0 ∧ Sl (Flat encSwap) 3 K ad0 cap0 r)) := by
 have := h_l_0.len
 unfold m20 at hr
 refine enterG (M := M) Tryz.func20 rfl Tryz.ntmps20 rfl hH ?_
 refine sq (rg (a1 rfl (on (sq (rg (a1 rfl (on (sq (sq (rg (a1 rfl ?_)))))))))))
 refine on (TG.nilRow 2 109 3 (TG.as 2 (z := Own.list none 0 109 3 encSwap ([] : List Swap)) rfl rfl ?_))
 obtain ⟨e82, hl83, hr84⟩ := bd_some hr
 refine jn (fun a w => ∃ (ad85 : Option Addr) (cap86 : Nat), St M W H [H] [(2, Own.list ad85 cap86 109 3 encSwap e82)] w ∧ Has [] 31 a [(3, .slice ad85 e82.length cap86)]) ?_ ?_
 ·refine bk ?_
  refine lp hl83 (fun s87 a w => ∃ (ad88 : Option Addr) (cap89 : Nat), St M W H [H] [(2, Own.list ad88 cap89 109 3 encSwap s87.2)] w ∧ Has [] 31 a [(0, .slice ad_l_0 l_0.length cap_l_0), (3, .slice ad88 s87.2.length cap89), (4, .int .i64 (s87.1 : Int))]) ?_ ?_
  ·intro a w hS hA
   exact ⟨none, 0, hS, hA.cut ⟨rfl, rfl, rfl, tv⟩⟩
  ·rintro j s87 y92 hr90 hz91 a w ⟨ad88, cap89, hS, hA⟩
   refine TG.ap ?_ hS hA
   unfold m20_1 at hr90
   refine sq (sq (rg (m1 rfl (m1 rfl (lnL U27 rfl rfl (ltI rfl rfl rfl (on ?_)))))))
   refine ci rfl (fun hc96 => ?_) (fun hc96 => ?_)
   ·have hr97 := if_p hc96 hr90
    refine sk (sq (bk ?_))
    obtain ⟨x119, hx120, hr121⟩ := bd_some hr97
    obtain ⟨p122, rfl⟩ := h_l_0.adr hx120
    obtain ⟨cs123, hcs124, hq125, hr126⟩ := h_l_0.at hx120
    obtain rfl := hr126
    refine drG 18 mixed (by kernel_rfl) rfl (dt rfl (m1 rfl fin1) (dt rfl (m1 rfl fin1) (dt rfl (m1 rfl fin1) (dt rfl (iaP U27 Z48 rfl rfl rfl rfl (lt_of hx120) fin1) (dt rfl (fb 0 U48 rfl rfl rfl rfl Z5 fin1) (dt rfl (ld G5 rfl rfl ((sS 1 rfl hq125).take 1) rfl fin1) (dt rfl (m1 rfl fin1) (dt rfl (m1 rfl fin1) (dt rfl (iaP U27 Z48 rfl rfl rfl rfl (lt_of hx120) fin1) (dt rfl (fb 1 U48 rfl rfl rfl rfl Z3 fin1) (dt rfl (ld G3 rfl rfl (((sS 1 rfl hq125).drop 1).take 1) rfl fin1) ?_)))))))))))
    refine dt rfl (m1 rfl fin1) (dt rfl (m1 rfl fin1) (dt rfl (iaP U27 Z48 rfl rfl rfl rfl (lt_of hx120) fin1) (dt rfl (fb 2 U48 rfl rfl rfl rfl Z3 fin1) (dt rfl (ld G3 rfl rfl ((sS 1 rfl hq125).drop 2) rfl fin1) (dt rfl (bu (cs := [.int .u8 x119.kind, .int .i64 x119.old_, .int .i64 x119.new_]) T4.B109 rfl rfl rfl fin1) ?_)))))
    refine DF.und (α := Option Addr × Nat) (none, 0) (fun q => .slice q.1 1 q.2) (fun (q : Option Addr × Nat) K => Sl (Flat encSwap) 3 K q.1 q.2 ([x119] : List Swap)) (fun _ _ _ h x => x.mono (Flat.mono _) h) (by kernel_rfl) rfl (fun a w K hS hA hF => TG.pa hS hA (bS (cs := [.int .u8 x119.kind, .int .i64 x119.old_, .int .i64 x119.new_]) T4.E38 rfl rfl rfl rfl fun q127 K128 hq129 hK130 => by
      have hl131 : Sl (Flat encSwap) 3 K128 (some q127) 1 ([x119] : List Swap) := Sl.litR (css := [[.int .u8 x119.kind, .int .i64 x119.old_, .int .i64 x119.new_]]) (l := ([x119] : List Swap)) ⟨⟨rfl, rfl, rfl⟩, tv⟩ hq129 hK130 rfl
      have := hl131.len
      exact finU (f := fun q => .slice q.1 1 q.2) (G := (fun (q : Option Addr × Nat) K => Sl (Flat encSwap) 3 K q.1 q.2 ([x119] : List Swap))) (_, _) (fun _ _ _ h x => x.mono (Flat.mono _) h) hl131)) ?_
    rintro ⟨ad133, cap134⟩
    refine DF.nil fun K135 hF => ?_
    obtain ⟨hu132, _⟩ := hF
    have := hu132.len
    obtain ⟨hk136, hr137⟩ := chk_some hr121
    have := lenA s87.2 ([x119] : List Swap)
    refine apS 2 (enc := encSwap) (l := s87.2) (m := ([x119] : List Swap)) T4.E38 rfl rfl rfl rfl rfl rfl hu132 0 rfl (fun _ => rfl) (fun _ => rfl) rfl hk136 fun ad138 cap139 => (a1 rfl (on (rg (m1 rfl (adI rfl rfl rfl (by omega) (a1 rfl (on ?_)))))))
    cases hr137
    intro a w hS hA
    exact ⟨_, hz91, ad138, cap139, hS.selH [1] rfl, hA.cut ⟨rfl, rfl, rfl, tv⟩⟩
   ·have hr140 := if_n hc96 hr90
    refine xt rfl ?_
    cases hr140
    obtain rfl := Fin.out hz91
    intro a w hS hA
    exact ⟨ad88, cap89, hS, hA.cut ⟨rfl, tv⟩⟩
 ·rintro a w ⟨ad85, cap86, hS, hA⟩
  refine TG.ap ?_ hS hA
  refine sq (rg (m1 rfl (a1 rfl (on (rt_ ?_)))))
  cases hr84
  intro a w hS hA
  refine ret1 hA rfl rfl ?_
  exact ⟨⟨_, _, rfl, (hS.listOut 2 rfl (fun _ => rfl))⟩, hS.ext⟩

theorem w28 {M : Prop} {W : World} (n_0 : Int) (low : Int) (high : Int) {r : Bool} (hr : m28 n_0 low high = some r) : Calls Tryz.prog 28 [.int .i64 n_0, .int .i64 low, .int .i64 high].toArray W (RetS M W (.bool r)) := by
 unfold m28 at hr
 refine enterG (M := M) Tryz.func28 rfl Tryz.ntmps28 rfl (Hp.le.refl _) ?_
 refine sq (rg (a1 rfl (on (sq ?_))))
 obtain ⟨t4, hx5, hr6⟩ := bd_some hr
 refine jn (fun a w => St M W (hp W) [(hp W)] [] w ∧ Has [] 15 a [(6, .bool t4)]) ?_ ?_
 ·refine rg (m1 rfl (m1 rfl (geI rfl rfl rfl (m1 rfl ?_))))
  by_cases hb7 : low ≤ n_0
  ·have hr8 := if_p hb7 hx5
   refine gt hb7 rfl (m1 rfl (gt hb7 rfl (m1 rfl (gt hb7 rfl (leI rfl rfl rfl (pt hb7 rfl rfl (a1 rfl (on ?_))))))))
   cases hr8
   exact cu ⟨rfl, tv⟩
  ·have hr9 := if_n hb7 hx5
   refine gf hb7 rfl (gf hb7 rfl (gf hb7 rfl (pf hb7 rfl rfl (a1 rfl (on ?_)))))
   cases hr9
   exact cu ⟨rfl, tv⟩
 ·rintro a w ⟨hS, hA⟩
  refine TG.ap ?_ hS hA
  refine rt_ ?_
  cases hr6
  intro a w hS hA
  refine ret1 hA rfl rfl ?_
  exact ⟨rfl, hS.ext⟩

theorem w60 {M : Prop} {W : World} (s_0 : Bytes) {r : Bool} (hr : m60 s_0 = some r) : Calls Tryz.prog 60 [.string (bs s_0)].toArray W (RetS M W (.bool r)) := by
 unfold m60 at hr
 refine enterG (M := M) Tryz.func60 rfl Tryz.ntmps60 rfl (Hp.le.refl _) ?_
 refine sq (rg (a1 rfl (on (sq (sq (rg (a1 rfl (on ?_))))))))
 obtain ⟨e17, hl18, hr19⟩ := bd_some hr
 refine jn (fun a w => ∃ t20, e17 = .inl t20 ∧ St M W (hp W) [(hp W)] [] w ∧ Has [] 23 a [(0, .string (bs s_0))]) ?_ ?_
 ·refine bk ?_
  refine lp hl18 (fun s21 a w => St M W (hp W) [(hp W)] [] w ∧ Has [] 23 a [(0, .string (bs s_0)), (3, .int .i64 (s21 : Int))]) ?_ ?_
  ·exact cu ⟨rfl, rfl, tv⟩
  ·rintro j s21 y24 hr22 hz23 a w ⟨hS, hA⟩
   refine TG.ap ?_ hS hA
   unfold m60_1 at hr22
   refine sq (sq (rg (m1 rfl (m1 rfl (lnS U9 rfl rfl (ltI rfl rfl rfl (on ?_)))))))
   refine ci rfl (fun hc28 => ?_) (fun hc28 => ?_)
   ·have hr29 := if_p hc28 hr22
    refine sk (sq (bk (sq ?_)))
    obtain ⟨t46, hx47, hr48⟩ := bd_some hr29
    refine jn (fun a w => St M W (hp W) [(hp W)] [] w ∧ Has [] 23 a [(0, .string (bs s_0)), (3, .int .i64 (s21 : Int)), (19, .bool t46)]) ?_ ?_
    ·refine rg (m1 rfl (m1 rfl ?_))
     obtain ⟨x49, hx50, hr51⟩ := bd_some hx47
     have := UInt8.toNat_lt x49
     refine ixS U9 rfl rfl rfl rfl hx50 (ltI rfl rfl rfl (m1 rfl ?_))
     by_cases hb52 : (x49.toNat : Int) < 33
     ·have hr53 := if_p hb52 hr51
      refine gf' hb52 rfl (gf' hb52 rfl (gf' hb52 rfl (gf' hb52 rfl (pt hb52 rfl rfl (on ?_)))))
      cases hr53
      exact cu ⟨rfl, rfl, rfl, tv⟩
     ·have hr54 := if_n hb52 hr51
      refine gt' hb52 rfl (m1 rfl (gt' hb52 rfl (m1 rfl (gt' hb52 rfl (ixS U9 rfl rfl rfl rfl hx50 (gt' hb52 rfl (gtI rfl rfl rfl (pf hb52 rfl rfl (on ?_)))))))))
      cases hr54
      exact cu ⟨rfl, rfl, rfl, tv⟩
    ·rintro a w ⟨hS, hA⟩
     refine TG.ap ?_ hS hA
     refine cb rfl (fun hc58 => ?_) (fun hc58 => ?_)
     ·have hr59 := if_p hc58 hr48
      refine sq (rg (a1 rfl (on (rt_ ?_))))
      cases hr59
      obtain rfl := Fin.out hz23
      cases hr19
      intro a w hS hA
      refine ret1 hA rfl rfl ?_
      exact ⟨rfl, hS.ext⟩
     ·have hr60 := if_f hc58 hr48
      refine sk (rg (m1 rfl ?_))
      obtain ⟨hk61, hr62⟩ := chk_some hr60
      refine adI rfl rfl rfl hk61 (a1 rfl (on ?_))
      cases hr62
      intro a w hS hA
      exact ⟨_, hz23, hS, hA.cut ⟨rfl, rfl, tv⟩⟩
   ·have hr63 := if_n hc28 hr22
    refine xt rfl ?_
    cases hr63
    obtain rfl := Fin.out hz23
    intro a w hS hA
    exact ⟨_, rfl, hS, hA.cut ⟨rfl, tv⟩⟩
 ·rintro a w ⟨t20, rfl, hS, hA⟩
  refine TG.ap ?_ hS hA
  refine sq (rg (m1 rfl (lnS U9 rfl rfl ?_)))
  obtain ⟨r64, hx65, hr66⟩ := bd_some hr19
  refine clS C28 rfl rfl rfl rfl (fun w H hH le => w28 (s_0.length : Int) 1 32 hx65) (a1 rfl (on (rt_ ?_)))
  cases hr66
  intro a w hS hA
  refine ret1 hA rfl rfl ?_
  exact ⟨rfl, hS.ext⟩

theorem w55 {M : Prop} {W : World} {H : Hp} (hH : H.le (hp W)) {ad_l_0 : Option Addr} {cap_l_0 : Nat} {l_0 : List Bytes} (h_l_0 : Sl (Flat encS) 1 H ad_l_0 cap_l_0 l_0) (most : Int) {r : Bool} (hr : m55 l_0 most = some r) : Calls Tryz.prog 55 [.slice ad_l_0 l_0.length cap_l_0, .int .i64 most].toArray W (RetS M W (.bool r)) := by
 have := h_l_0.len
 unfold m55 at hr
 refine enterG (M := M) Tryz.func55 rfl Tryz.ntmps55 rfl hH ?_
 refine sq (rg (a1 rfl (on (sq (sq (rg (a1 rfl (on ?_))))))))
 obtain ⟨e19, hl20, hr21⟩ := bd_some hr
 refine jn (fun a w => ∃ t22, e19 = .inl t22 ∧ St M W H [H] [] w ∧ Has [] 22 a [(0, .slice ad_l_0 l_0.length cap_l_0), (1, .int .i64 most)]) ?_ ?_
 ·refine bk ?_
  refine lp hl20 (fun s23 a w => St M W H [H] [] w ∧ Has [] 22 a [(0, .slice ad_l_0 l_0.length cap_l_0), (1, .int .i64 most), (5, .int .i64 (s23 : Int))]) ?_ ?_
  ·exact cu ⟨rfl, rfl, rfl, tv⟩
  ·rintro j s23 y26 hr24 hz25 a w ⟨hS, hA⟩
   refine TG.ap ?_ hS hA
   unfold m55_1 at hr24
   refine sq (sq (rg (m1 rfl (m1 rfl (lnL U24 rfl rfl (ltI rfl rfl rfl (on ?_)))))))
   refine ci rfl (fun hc30 => ?_) (fun hc30 => ?_)
   ·have hr31 := if_p hc30 hr24
    refine sk (sq (bk (sq (rg (m1 rfl (m1 rfl ?_))))))
    obtain ⟨x46, hx47, hr48⟩ := bd_some hr31
    obtain ⟨p49, rfl⟩ := h_l_0.adr hx47
    obtain ⟨cs50, hcs51, hq52, hr53⟩ := h_l_0.at hx47
    obtain rfl := hr53
    refine iaP U24 Z9 rfl rfl rfl rfl (lt_of hx47) (ld G9 rfl rfl (sS 0 rfl hq52) rfl ?_)
    obtain ⟨r54, hx55, hr56⟩ := bd_some hr48
    refine clS C60 rfl rfl rfl rfl (fun w H hH le => w60 x46 hx55) (nt rfl rfl (on ?_))
    refine cb rfl (fun hc60 => ?_) (fun hc60 => ?_)
    ·replace hc60 := nbt hc60
     have hr61 := if_f hc60 hr56
     refine sq (rg (a1 rfl (on (rt_ ?_))))
     cases hr61
     obtain rfl := Fin.out hz25
     cases hr21
     intro a w hS hA
     refine ret1 hA rfl rfl ?_
     exact ⟨rfl, hS.ext⟩
    ·replace hc60 := nbf hc60
     have hr62 := if_p hc60 hr56
     refine sk (rg (m1 rfl (adI rfl rfl rfl (by omega) (a1 rfl (on ?_)))))
     cases hr62
     intro a w hS hA
     exact ⟨_, hz25, hS, hA.cut ⟨rfl, rfl, rfl, tv⟩⟩
   ·have hr63 := if_n hc30 hr24
    refine xt rfl ?_
    cases hr63
    obtain rfl := Fin.out hz25
    intro a w hS hA
    exact ⟨_, rfl, hS, hA.cut ⟨rfl, rfl, tv⟩⟩
 ·rintro a w ⟨t22, rfl, hS, hA⟩
  refine TG.ap ?_ hS hA
  refine sq (rg (m1 rfl (lnL U24 rfl rfl (m1 rfl (leI rfl rfl rfl (a1 rfl (on (rt_ ?_))))))))
  cases hr21
  intro a w hS hA
  refine ret1 hA rfl rfl ?_
  exact ⟨rfl, hS.ext⟩

theorem w34 {M : Prop} {W : World} {H : Hp} (hH : H.le (hp W)) {cs_l_0 : List Value} (l_0 : Lexicon) (h_l_0 : (RLexicon) H cs_l_0 l_0) {r : Int} (hr : m34 l_0 = some r) : Calls Tryz.prog 34 [.agg cs_l_0.toArray].toArray W (RetS M W (.int .i64 r)) := by
 have hh_l_0 := h_l_0
 obtain ⟨ad1, cap2, ad4, cap5, ad7, cap8, rfl, hl3, hl6, hl9⟩ := h_l_0
 have := hl3.len
 have := hl6.len
 have := hl9.len
 unfold m34 at hr
 refine enterG (M := M) Tryz.func34 rfl Tryz.ntmps34 rfl hH ?_
 refine sq (rg (bI (cs := [.slice ad1 l_0.numbers.length cap2, .slice ad4 l_0.names.length cap5, .slice ad7 l_0.nots.length cap8]) rfl rfl rfl fun q10 K11 hK12 => (a1 rfl (on (sq (rg (a1 rfl (on (sq (sq (rg ?_)))))))))))
 refine a1 rfl (on (TG.nilRow 2 9 1 (TG.as 2 (z := Own.list none 0 9 1 encS ([] : List Bytes)) rfl rfl ?_)))
 obtain ⟨e133, hl134, hr135⟩ := bd_some hr
 refine jn (fun a w => ∃ t136, e133 = .inl t136 ∧ ∃ (ad137 : Option Addr) (cap138 : Nat), St M W H [K11, H] [(2, Own.list ad137 cap138 9 1 encS t136)] w ∧ Has [] 112 a [(1, .pointer (some q10)), (3, .slice ad137 t136.length cap138)]) ?_ ?_
 ·refine bk ?_
  refine lp hl134 (fun s139 a w => ∃ (ad140 : Option Addr) (cap141 : Nat), St M W H [K11, H] [(2, Own.list ad140 cap141 9 1 encS s139.2)] w ∧ Has [] 112 a [(1, .pointer (some q10)), (3, .slice ad140 s139.2.length cap141), (4, .int .i64 (s139.1 : Int))]) ?_ ?_
  ·intro a w hS hA
   exact ⟨none, 0, hS, hA.cut ⟨rfl, rfl, rfl, tv⟩⟩
  ·rintro j s139 y144 hr142 hz143 a w ⟨ad140, cap141, hS, hA⟩
   refine TG.ap ?_ hS hA
   unfold m34_1 at hr142
   refine sq (sq (rg (m1 rfl (fb 0 U26 rfl rfl rfl rfl Z22 (ld G22 rfl rfl ((sS 0 rfl hK12).take 1) rfl (lnL U22 rfl rfl (ltI rfl rfl rfl (on ?_))))))))
   refine ci rfl (fun hc148 => ?_) (fun hc148 => ?_)
   ·have hr149 := if_p hc148 hr142
    refine sk (sq (bk (sq (sq ?_))))
    obtain ⟨t201, hx202, hr203⟩ := bd_some hr149
    refine jn (fun a w => St M W H [K11, H] [(2, Own.list ad140 cap141 9 1 encS s139.2)] w ∧ Has [] 112 a [(1, .pointer (some q10)), (3, .slice ad140 s139.2.length cap141), (4, .int .i64 (s139.1 : Int)), (32, .bool t201)]) ?_ ?_
    ·refine rg (fb 0 U26 rfl rfl rfl rfl Z22 (ld G22 rfl rfl ((sS 0 rfl hK12).take 1) rfl (m1 rfl ?_)))
     obtain ⟨x204, hx205, hr206⟩ := bd_some hx202
     obtain ⟨p207, rfl⟩ := hl3.adr hx205
     obtain ⟨cs208, hcs209, hq210, hr211⟩ := hl3.at hx205
     obtain rfl := hr211
     refine iaP U22 Z112 rfl rfl rfl rfl (lt_of hx205) (fb 0 U112 rfl rfl rfl rfl Z9 (ld G9 rfl rfl ((sS 1 rfl hq210).take 1) rfl ?_))
     obtain ⟨r212, hx213, hr214⟩ := bd_some hr206
     refine clS C60 rfl rfl rfl rfl (fun w H hH le => w60 x204.text hx213) (nt rfl rfl (m1 rfl ?_))
     rcases Bool.eq_false_or_eq_true (r212) with hb215 | hb215
     ·have hr216 := if_p hb215 hr214
      refine gN rfl rfl (congrArg not (hb215)) (fb 0 U26 rfl rfl rfl rfl Z22 (gN rfl rfl (congrArg not (hb215)) (ld G22 rfl rfl ((sS 0 rfl hK12).take 1) rfl (gN rfl rfl (congrArg not (hb215)) (m1 rfl (gN rfl rfl (congrArg not (hb215)) (iaP U22 Z112 rfl rfl rfl rfl (lt_of hx205) (gN rfl rfl (congrArg not (hb215)) (fb 1 U112 rfl rfl rfl rfl Z3 (gN rfl rfl (congrArg not (hb215)) (ld G3 rfl rfl ((sS 1 rfl hq210).drop 1) rfl ?_)))))))))))
      refine gN rfl rfl (congrArg not (hb215)) ?_
      obtain ⟨r217, hx218, hr219⟩ := bd_some hr216
      refine clS C28 rfl rfl rfl rfl (fun w H hH le => w28 x204.value 0 999999999 hx218) (gN rfl rfl (congrArg not (hb215)) (nt rfl rfl (pF rfl rfl (congrArg not (hb215)) rfl (on ?_))))
      cases hr219
      exact cu ⟨rfl, rfl, rfl, rfl, tv⟩
     ·have hr220 := if_f hb215 hr214
      refine gF rfl rfl (congrArg not (hb215)) rfl (gF rfl rfl (congrArg not (hb215)) rfl (gF rfl rfl (congrArg not (hb215)) rfl (gF rfl rfl (congrArg not (hb215)) rfl (gF rfl rfl (congrArg not (hb215)) rfl (gF rfl rfl (congrArg not (hb215)) rfl (gF rfl rfl (congrArg not (hb215)) rfl (gF rfl rfl (congrArg not (hb215)) rfl (pT rfl rfl (congrArg not (hb215)) rfl (on ?_)))))))))
      cases hr220
      exact cu ⟨rfl, rfl, rfl, rfl, tv⟩
    ·rintro a w ⟨hS, hA⟩
     refine TG.ap ?_ hS hA
     refine cb rfl (fun hc224 => ?_) (fun hc224 => ?_)
     ·have hr225 := if_p hc224 hr203
      refine sq (rg (a1 rfl (on (rt_ ?_))))
      cases hr225
      obtain rfl := Fin.out hz143
      cases hr135
      intro a w hS hA
      refine ret1 hA rfl rfl ?_
      exact ⟨rfl, hS.ext⟩
     ·have hr226 := if_f hc224 hr203
      refine sk (rg (m1 rfl (fb 0 U26 rfl rfl rfl rfl Z22 (ld G22 rfl rfl ((sS 0 rfl hK12).take 1) rfl (m1 rfl ?_)))))
      obtain ⟨x227, hx228, hr229⟩ := bd_some hr226
      obtain ⟨p230, rfl⟩ := hl3.adr hx228
      obtain ⟨cs231, hcs232, hq233, hr234⟩ := hl3.at hx228
      obtain rfl := hr234
      refine iaP U22 Z112 rfl rfl rfl rfl (lt_of hx228) (fb 0 U112 rfl rfl rfl rfl Z9 (ld G9 rfl rfl ((sS 1 rfl hq233).take 1) rfl ?_))
      obtain ⟨hk235, hr236⟩ := chk_some hr229
      have := lenA s139.2 [x227.text]
      refine ap1 2 encS (l := s139.2) x227.text T4.E24 rfl rfl rfl rfl rfl rfl rfl rfl rfl rfl rfl rfl hk235 fun ad237 cap238 u239 => (a1 rfl (on (rg (m1 rfl (adI rfl rfl rfl (by omega) (a1 rfl (on ?_)))))))
      cases hr236
      intro a w hS hA
      exact ⟨_, hz143, ad237, cap238, hS, hA.cut ⟨rfl, rfl, rfl, tv⟩⟩
   ·have hr240 := if_n hc148 hr142
    refine xt rfl ?_
    cases hr240
    obtain rfl := Fin.out hz143
    intro a w hS hA
    exact ⟨_, rfl, ad140, cap141, hS, hA.cut ⟨rfl, rfl, tv⟩⟩
 ·rintro a w ⟨t136, rfl, ad137, cap138, hS, hA⟩
  refine TG.ap ?_ hS hA
  refine sq (sq (rg (a1 rfl (on ?_))))
  obtain ⟨e372, hl373, hr374⟩ := bd_some hr135
  refine jn (fun a w => ∃ t375, e372 = .inl t375 ∧ ∃ (ad376 : Option Addr) (cap377 : Nat), St M W H [K11, H] [(2, Own.list ad376 cap377 9 1 encS t375)] w ∧ Has [] 112 a [(1, .pointer (some q10)), (3, .slice ad376 t375.length cap377)]) ?_ ?_
  ·refine bk ?_
   refine lp hl373 (fun s378 a w => ∃ (ad379 : Option Addr) (cap380 : Nat), St M W H [K11, H] [(2, Own.list ad379 cap380 9 1 encS s378.2)] w ∧ Has [] 112 a [(1, .pointer (some q10)), (3, .slice ad379 s378.2.length cap380), (5, .int .i64 (s378.1 : Int))]) ?_ ?_
   ·intro a w hS hA
    exact ⟨ad137, cap138, hS, hA.cut ⟨rfl, rfl, rfl, tv⟩⟩
   ·rintro j s378 y383 hr381 hz382 a w ⟨ad379, cap380, hS, hA⟩
    refine TG.ap ?_ hS hA
    unfold m34_2 at hr381
    refine sq (sq (rg (m1 rfl (fb 1 U26 rfl rfl rfl rfl Z23 (ld G23 rfl rfl (((sS 0 rfl hK12).drop 1).take 1) rfl (lnL U23 rfl rfl (ltI rfl rfl rfl (on ?_))))))))
    refine ci rfl (fun hc387 => ?_) (fun hc387 => ?_)
    ·have hr388 := if_p hc387 hr381
     refine sk (sq (bk (sq (sq ?_))))
     obtain ⟨t445, hx446, hr447⟩ := bd_some hr388
     refine jn (fun a w => St M W H [K11, H] [(2, Own.list ad379 cap380 9 1 encS s378.2)] w ∧ Has [] 112 a [(1, .pointer (some q10)), (3, .slice ad379 s378.2.length cap380), (5, .int .i64 (s378.1 : Int)), (64, .bool t445)]) ?_ ?_
     ·refine rg (fb 1 U26 rfl rfl rfl rfl Z23 (ld G23 rfl rfl (((sS 0 rfl hK12).drop 1).take 1) rfl (m1 rfl ?_)))
      obtain ⟨x448, hx449, hr450⟩ := bd_some hx446
      obtain ⟨p451, rfl⟩ := hl6.adr hx449
      obtain ⟨cs452, hcs453, hq454, hr455⟩ := hl6.at hx449
      have hr456 := hr455
      obtain ⟨ad457, cap458, rfl, hl459⟩ := hr455
      have := hl459.len
      refine iaP U23 Z24 rfl rfl rfl rfl (lt_of hx449) (ld G24 rfl rfl (sS 1 rfl hq454) rfl (lnL U24 rfl rfl (eqI rfl rfl rfl (m1 rfl ?_))))
      by_cases hb460 : (x448.length : Int) = 0
      ·have hr461 := if_p hb460 hr450
       refine gf' hb460 rfl (gf' hb460 rfl (gf' hb460 rfl (gf' hb460 rfl (gf' hb460 rfl (gf' hb460 rfl (gf' hb460 rfl (pt hb460 rfl rfl (on ?_))))))))
       cases hr461
       exact cu ⟨rfl, rfl, rfl, rfl, tv⟩
      ·have hr462 := if_n hb460 hr450
       refine gt' hb460 rfl (fb 1 U26 rfl rfl rfl rfl Z23 (gt' hb460 rfl (ld G23 rfl rfl (((sS 0 rfl hK12).drop 1).take 1) rfl (gt' hb460 rfl (m1 rfl (gt' hb460 rfl (iaP U23 Z24 rfl rfl rfl rfl (lt_of hx449) (gt' hb460 rfl (ld G24 rfl rfl (sS 1 rfl hq454) rfl (gt' hb460 rfl ?_))))))))))
       obtain ⟨r463, hx464, hr465⟩ := bd_some hr462
       refine clS C55 rfl rfl rfl rfl (fun w H hH le => w55 hH (hl459.mono (Flat.mono _) (le.at 1 rfl)) 5 hx464) (gt' hb460 rfl (nt rfl rfl (pf hb460 rfl rfl (on ?_))))
       cases hr465
       exact cu ⟨rfl, rfl, rfl, rfl, tv⟩
     ·rintro a w ⟨hS, hA⟩
      refine TG.ap ?_ hS hA
      refine cb rfl (fun hc469 => ?_) (fun hc469 => ?_)
      ·have hr470 := if_p hc469 hr447
       refine sq (rg (a1 rfl (on (rt_ ?_))))
       cases hr470
       obtain rfl := Fin.out hz382
       cases hr374
       intro a w hS hA
       refine ret1 hA rfl rfl ?_
       exact ⟨rfl, hS.ext⟩
      ·have hr471 := if_f hc469 hr447
       refine sk (rg (m1 rfl (fb 1 U26 rfl rfl rfl rfl Z23 (ld G23 rfl rfl (((sS 0 rfl hK12).drop 1).take 1) rfl (m1 rfl ?_)))))
       obtain ⟨x472, hx473, hr474⟩ := bd_some hr471
       obtain ⟨p475, rfl⟩ := hl6.adr hx473
       obtain ⟨cs476, hcs477, hq478, hr479⟩ := hl6.at hx473
       have hr480 := hr479
       obtain ⟨ad481, cap482, rfl, hl483⟩ := hr479
       have := hl483.len
       refine iaP U23 Z24 rfl rfl rfl rfl (lt_of hx473) (ld G24 rfl rfl (sS 1 rfl hq478) rfl ?_)
       obtain ⟨hk484, hr485⟩ := chk_some hr474
       have := lenA s378.2 x472
       refine apS 2 (enc := encS) (l := s378.2) (m := x472) T4.E24 rfl rfl rfl rfl rfl rfl hl483 1 rfl (fun _ => rfl) (fun _ => rfl) rfl hk484 fun ad486 cap487 => (a1 rfl (on (rg (m1 rfl (adI rfl rfl rfl (by omega) (a1 rfl (on ?_)))))))
       cases hr485
       intro a w hS hA
       exact ⟨_, hz382, ad486, cap487, hS, hA.cut ⟨rfl, rfl, rfl, tv⟩⟩
    ·have hr488 := if_n hc387 hr381
     refine xt rfl ?_
     cases hr488
     obtain rfl := Fin.out hz382
     intro a w hS hA
     exact ⟨_, rfl, ad379, cap380, hS, hA.cut ⟨rfl, rfl, tv⟩⟩
  ·rintro a w ⟨t375, rfl, ad376, cap377, hS, hA⟩
   refine TG.ap ?_ hS hA
   refine sq (sq ?_)
   obtain ⟨t498, hx499, hr500⟩ := bd_some hr374
   refine jn (fun a w => St M W H [K11, H] [(2, Own.list ad376 cap377 9 1 encS t375)] w ∧ Has [] 112 a [(1, .pointer (some q10)), (3, .slice ad376 t375.length cap377), (87, .bool t498)]) ?_ ?_
   ·refine rg (fb 2 U26 rfl rfl rfl rfl Z24 (ld G24 rfl rfl ((sS 0 rfl hK12).drop 2) rfl ?_))
    obtain ⟨r501, hx502, hr503⟩ := bd_some hx499
    refine clS C55 rfl rfl rfl rfl (fun w H hH le => w55 hH (hl9.mono (Flat.mono _) (le.at 1 rfl)) 40 hx502) (nt rfl rfl (m1 rfl ?_))
    rcases Bool.eq_false_or_eq_true (r501) with hb504 | hb504
    ·have hr505 := if_p hb504 hr503
     refine gN rfl rfl (congrArg not (hb504)) (fb 0 U26 rfl rfl rfl rfl Z22 (gN rfl rfl (congrArg not (hb504)) (ld G22 rfl rfl ((sS 0 rfl hK12).take 1) rfl (gN rfl rfl (congrArg not (hb504)) (lnL U22 rfl rfl (gN rfl rfl (congrArg not (hb504)) (gtI rfl rfl rfl (pF rfl rfl (congrArg not (hb504)) rfl (m1 rfl ?_)))))))))
     by_cases hb506 : 40 < (l_0.numbers.length : Int)
     ·have hr507 := if_p hb506 hr505
      refine gf' hb506 rfl (gf' hb506 rfl (gf' hb506 rfl (gf' hb506 rfl (pt hb506 rfl rfl (on ?_)))))
      cases hr507
      exact cu ⟨rfl, rfl, rfl, tv⟩
     ·have hr508 := if_n hb506 hr505
      refine gt' hb506 rfl (fb 1 U26 rfl rfl rfl rfl Z23 (gt' hb506 rfl (ld G23 rfl rfl (((sS 0 rfl hK12).drop 1).take 1) rfl (gt' hb506 rfl (lnL U23 rfl rfl (gt' hb506 rfl (gtI rfl rfl rfl (pf hb506 rfl rfl (on ?_)))))))))
      cases hr508
      exact cu ⟨rfl, rfl, rfl, tv⟩
    ·have hr509 := if_f hb504 hr503
     refine gF rfl rfl (congrArg not (hb504)) rfl (gF rfl rfl (congrArg not (hb504)) rfl (gF rfl rfl (congrArg not (hb504)) rfl (gF rfl rfl (congrArg not (hb504)) rfl (pT rfl rfl (congrArg not (hb504)) rfl (m1 rfl (gF rfl rfl rfl rfl (gF rfl rfl rfl rfl (gF rfl rfl rfl rfl (gF rfl rfl rfl rfl (pT rfl rfl rfl rfl (on ?_)))))))))))
     cases hr509
     exact cu ⟨rfl, rfl, rfl, tv⟩
   ·rintro a w ⟨hS, hA⟩
    refine TG.ap ?_ hS hA
    refine cb rfl (fun hc513 => ?_) (fun hc513 => ?_)
    ·have hr514 := if_p hc513 hr500
     refine sq (rg (a1 rfl (on (rt_ ?_))))
     cases hr514
     intro a w hS hA
     refine ret1 hA rfl rfl ?_
     exact ⟨rfl, hS.ext⟩
    ·have hr515 := if_f hc513 hr500
     refine sk (sq (rg (m1 rfl (fb 2 U26 rfl rfl rfl rfl Z24 (ld G24 rfl rfl ((sS 0 rfl hK12).drop 2) rfl ?_)))))
     obtain ⟨hk516, hr517⟩ := chk_some hr515
     have := lenA t375 l_0.nots
     refine apS 2 (enc := encS) (l := t375) (m := l_0.nots) T4.E24 rfl rfl rfl rfl rfl rfl hl9 1 rfl (fun _ => rfl) (fun _ => rfl) rfl hk516 fun ad518 cap519 => (a1 rfl (on (sq (sq (rg (a1 rfl (on ?_)))))))
     obtain ⟨e542, hl543, hr544⟩ := bd_some hr517
     refine jn (fun a w => ∃ t545, e542 = .inl t545 ∧ St M W H [K11, H] [(2, Own.list ad518 cap519 9 1 encS (t375 ++ l_0.nots))] w ∧ Has [] 112 a []) ?_ ?_
     ·refine bk ?_
      refine lp hl543 (fun s546 a w => St M W H [K11, H] [(2, Own.list ad518 cap519 9 1 encS (t375 ++ l_0.nots))] w ∧ Has [] 112 a [(3, .slice ad518 ((t375 ++ l_0.nots).length) cap519), (6, .int .i64 (s546 : Int))]) ?_ ?_
      ·exact cu ⟨rfl, rfl, tv⟩
      ·rintro j s546 y549 hr547 hz548 a w ⟨hS, hA⟩
       refine TG.ap ?_ hS hA
       unfold m34_3 at hr547
       refine sq (sq (rg (m1 rfl (m1 rfl (lnL U24 rfl rfl (ltI rfl rfl rfl (on ?_)))))))
       refine ci rfl (fun hc553 => ?_) (fun hc553 => ?_)
       ·have hr554 := if_p hc553 hr547
        refine sk (sq (bk (sq (rg (a1 rfl (on ?_))))))
        obtain ⟨e590, hl591, hr592⟩ := bd_some hr554
        refine jn (fun a w => ∃ t593, e590 = .inl t593 ∧ St M W H [K11, H] [(2, Own.list ad518 cap519 9 1 encS (t375 ++ l_0.nots))] w ∧ Has [] 112 a [(3, .slice ad518 ((t375 ++ l_0.nots).length) cap519), (6, .int .i64 (s546 : Int))]) ?_ ?_
        ·refine bk ?_
         refine lp hl591 (fun s594 a w => St M W H [K11, H] [(2, Own.list ad518 cap519 9 1 encS (t375 ++ l_0.nots))] w ∧ Has [] 112 a [(3, .slice ad518 ((t375 ++ l_0.nots).length) cap519), (6, .int .i64 (s546 : Int)), (7, .int .i64 (s594 : Int))]) ?_ ?_
         ·exact cu ⟨rfl, rfl, rfl, tv⟩
         ·rintro j s594 y597 hr595 hz596 a w ⟨hS, hA⟩
          refine TG.ap ?_ hS hA
          unfold m34_4 at hr595
          refine sq (sq (rg (m1 rfl (m1 rfl (ltI rfl rfl rfl (on ?_))))))
          refine ci rfl (fun hc601 => ?_) (fun hc601 => ?_)
          ·have hr602 := if_p hc601 hr595
           refine sk (sq (bk (sq ?_)))
           obtain ⟨x614, hx615, hr616⟩ := bd_some hr602
           refine TG.addr 2 rfl (lt_of0 hx615) fun b617 h => ?_; subst h
           obtain ⟨x618, hx619, hr620⟩ := bd_some hr616
           refine drG 8 mixed (by kernel_rfl) rfl (dt rfl (m1 rfl fin1) (dt rfl (m1 rfl fin1) (dt rfl (iaP U24 Z9 rfl rfl rfl rfl (lt_of hx615) fin1) (dt rfl (ld G9 rfl rfl (sE 2 rfl (fun _ => rfl) hx615) rfl fin1) (dt rfl (m1 rfl fin1) (dt rfl (m1 rfl fin1) (dt rfl (iaP U24 Z9 rfl rfl rfl rfl (lt_of hx619) fin1) (dt rfl (ld G9 rfl rfl (sE 2 rfl (fun _ => rfl) hx619) rfl fin1) (DF.nil fun K621 hF => (eqS rfl rfl rfl (on ?_)))))))))))
           refine ci rfl (fun hc625 => ?_) (fun hc625 => ?_)
           ·have hr626 := if_p hc625 hr620
            refine sq (rg (a1 rfl (on (rt_ ?_))))
            cases hr626
            obtain rfl := Fin.out hz596
            cases hr592
            obtain rfl := Fin.out hz548
            cases hr544
            intro a w hS hA
            refine ret1 hA rfl rfl ?_
            exact ⟨rfl, hS.ext⟩
           ·have hr627 := if_n hc625 hr620
            refine sk (rg (m1 rfl ?_))
            obtain ⟨hk628, hr629⟩ := chk_some hr627
            refine adI rfl rfl rfl hk628 (a1 rfl (on ?_))
            cases hr629
            intro a w hS hA
            exact ⟨_, hz596, hS.selH [1, 2] rfl, hA.cut ⟨rfl, rfl, rfl, tv⟩⟩
          ·have hr630 := if_n hc601 hr595
           refine xt rfl ?_
           cases hr630
           obtain rfl := Fin.out hz596
           intro a w hS hA
           exact ⟨_, rfl, hS, hA.cut ⟨rfl, rfl, tv⟩⟩
        ·rintro a w ⟨t593, rfl, hS, hA⟩
         refine TG.ap ?_ hS hA
         refine rg (m1 rfl (adI rfl rfl rfl (by omega) (a1 rfl (on ?_))))
         cases hr592
         intro a w hS hA
         exact ⟨_, hz548, hS, hA.cut ⟨rfl, rfl, tv⟩⟩
       ·have hr631 := if_n hc553 hr547
        refine xt rfl ?_
        cases hr631
        obtain rfl := Fin.out hz548
        intro a w hS hA
        exact ⟨_, rfl, hS, hA.cut tv⟩
     ·rintro a w ⟨t545, rfl, hS, hA⟩
      refine TG.ap ?_ hS hA
      refine sq (rg (a1 rfl (on (rt_ ?_))))
      cases hr544
      intro a w hS hA
      refine ret1 hA rfl rfl ?_
      exact ⟨rfl, hS.ext⟩

theorem w27 {M : Prop} {W : World} {H : Hp} (hH : H.le (hp W)) {ad_l_0 : Option Addr} {cap_l_0 : Nat} {l_0 : List Swap} (h_l_0 : Sl (Flat encSwap) 3 H ad_l_0 cap_l_0 l_0) {r : Int} (hr : m27 l_0 = some r) : Calls Tryz.prog 27 [.slice ad_l_0 l_0.length cap_l_0].toArray W (RetS M W (.int .i64 r)) := by
 have := h_l_0.len
 unfold m27 at hr
 refine enterG (M := M) Tryz.func27 rfl Tryz.ntmps27 rfl hH ?_
 refine sq (rg (a1 rfl (on (sq (sq (rg (m1 rfl (lnL U27 rfl rfl (gtI rfl rfl rfl (on ?_))))))))))
 refine ci rfl (fun hc4 => ?_) (fun hc4 => ?_)
 ·have hr5 := if_p hc4 hr
  refine sq (rg (a1 rfl (on (rt_ ?_))))
  cases hr5
  intro a w hS hA
  refine ret1 hA rfl rfl ?_
  exact ⟨rfl, hS.ext⟩
 ·have hr6 := if_n hc4 hr
  refine sk (sq (sq (rg (a1 rfl (on ?_)))))
  obtain ⟨e47, hl48, hr49⟩ := bd_some hr6
  refine jn (fun a w => ∃ t50, e47 = .inl t50 ∧ St M W H [H] [] w ∧ Has [] 45 a []) ?_ ?_
  ·refine bk ?_
   refine lp hl48 (fun s51 a w => St M W H [H] [] w ∧ Has [] 45 a [(0, .slice ad_l_0 l_0.length cap_l_0), (3, .int .i64 (s51 : Int))]) ?_ ?_
   ·exact cu ⟨rfl, rfl, tv⟩
   ·rintro j s51 y54 hr52 hz53 a w ⟨hS, hA⟩
    refine TG.ap ?_ hS hA
    unfold m27_1 at hr52
    refine sq (sq (rg (m1 rfl (m1 rfl (lnL U27 rfl rfl (ltI rfl rfl rfl (on ?_)))))))
    refine ci rfl (fun hc58 => ?_) (fun hc58 => ?_)
    ·have hr59 := if_p hc58 hr52
     refine sk (sq (bk (sq ?_)))
     obtain ⟨t128, hx129, hr130⟩ := bd_some hr59
     refine jn (fun a w => St M W H [H] [] w ∧ Has [] 45 a [(0, .slice ad_l_0 l_0.length cap_l_0), (3, .int .i64 (s51 : Int)), (44, .bool t128)]) ?_ ?_
     ·refine rg (m1 rfl (m1 rfl ?_))
      obtain ⟨x131, hx132, hr133⟩ := bd_some hx129
      obtain ⟨p134, rfl⟩ := h_l_0.adr hx132
      obtain ⟨cs135, hcs136, hq137, hr138⟩ := h_l_0.at hx132
      obtain rfl := hr138
      refine iaP U27 Z48 rfl rfl rfl rfl (lt_of hx132) (fb 0 U48 rfl rfl rfl rfl Z5 (ld G5 rfl rfl ((sS 0 rfl hq137).take 1) rfl (neI rfl rfl rfl (m1 rfl ?_))))
      by_cases hb139 : x131.kind ≠ 1
      ·have hr140 := if_p hb139 hr133
       refine gt hb139 rfl (m1 rfl (gt hb139 rfl (m1 rfl (gt hb139 rfl (iaP U27 Z48 rfl rfl rfl rfl (lt_of hx132) (gt hb139 rfl (fb 0 U48 rfl rfl rfl rfl Z5 (gt hb139 rfl (ld G5 rfl rfl ((sS 0 rfl hq137).take 1) rfl (gt hb139 rfl (neI rfl rfl rfl ?_)))))))))))
       refine pt hb139 rfl rfl (m1 rfl ?_)
       by_cases hb141 : x131.kind ≠ 2
       ·have hr142 := if_p hb141 hr140
        refine gf' hb141 rfl (gf' hb141 rfl (gf' hb141 rfl (gf' hb141 rfl (gf' hb141 rfl (gf' hb141 rfl (gf' hb141 rfl (pt hb141 rfl rfl (m1 rfl (gF rfl rfl rfl rfl (gF rfl rfl rfl rfl (gF rfl rfl rfl rfl ?_)))))))))))
        refine gF rfl rfl rfl rfl (gF rfl rfl rfl rfl (gF rfl rfl rfl rfl (gF rfl rfl rfl rfl (pT rfl rfl rfl rfl (on ?_)))))
        cases hr142
        exact cu ⟨rfl, rfl, rfl, tv⟩
       ·have hr143 := if_n hb141 hr140
        refine gt' hb141 rfl (m1 rfl (gt' hb141 rfl (m1 rfl (gt' hb141 rfl (iaP U27 Z48 rfl rfl rfl rfl (lt_of hx132) (gt' hb141 rfl (fb 1 U48 rfl rfl rfl rfl Z3 (gt' hb141 rfl (ld G3 rfl rfl (((sS 0 rfl hq137).drop 1).take 1) rfl (gt' hb141 rfl ?_))))))))))
        obtain ⟨r144, hx145, hr146⟩ := bd_some hr143
        refine clS C28 rfl rfl rfl rfl (fun w H hH le => w28 x131.old_ 0 999999999 hx145) (gt' hb141 rfl (nt rfl rfl (pf hb141 rfl rfl (m1 rfl ?_))))
        rcases Bool.eq_false_or_eq_true (r144) with hb147 | hb147
        ·have hr148 := if_p hb147 hr146
         refine gN rfl rfl (congrArg not (hb147)) (m1 rfl (gN rfl rfl (congrArg not (hb147)) (m1 rfl (gN rfl rfl (congrArg not (hb147)) (iaP U27 Z48 rfl rfl rfl rfl (lt_of hx132) (gN rfl rfl (congrArg not (hb147)) (fb 2 U48 rfl rfl rfl rfl Z3 (gN rfl rfl (congrArg not (hb147)) (ld G3 rfl rfl ((sS 0 rfl hq137).drop 2) rfl (gN rfl rfl (congrArg not (hb147)) ?_))))))))))
         obtain ⟨r149, hx150, hr151⟩ := bd_some hr148
         refine clS C28 rfl rfl rfl rfl (fun w H hH le => w28 x131.new_ 0 999999999 hx150) (gN rfl rfl (congrArg not (hb147)) (nt rfl rfl (pF rfl rfl (congrArg not (hb147)) rfl (on ?_))))
         cases hr151
         exact cu ⟨rfl, rfl, rfl, tv⟩
        ·have hr152 := if_f hb147 hr146
         refine gF rfl rfl (congrArg not (hb147)) rfl (gF rfl rfl (congrArg not (hb147)) rfl (gF rfl rfl (congrArg not (hb147)) rfl (gF rfl rfl (congrArg not (hb147)) rfl (gF rfl rfl (congrArg not (hb147)) rfl (gF rfl rfl (congrArg not (hb147)) rfl (gF rfl rfl (congrArg not (hb147)) rfl (pT rfl rfl (congrArg not (hb147)) rfl (on ?_))))))))
         cases hr152
         exact cu ⟨rfl, rfl, rfl, tv⟩
      ·have hr153 := if_n hb139 hr133
       refine gf hb139 rfl (gf hb139 rfl (gf hb139 rfl (gf hb139 rfl (gf hb139 rfl (gf hb139 rfl (pf hb139 rfl rfl (m1 rfl (gN rfl rfl rfl (m1 rfl (gN rfl rfl rfl (m1 rfl ?_)))))))))))
       refine gN rfl rfl rfl (iaP U27 Z48 rfl rfl rfl rfl (lt_of hx132) (gN rfl rfl rfl (fb 1 U48 rfl rfl rfl rfl Z3 (gN rfl rfl rfl (ld G3 rfl rfl (((sS 0 rfl hq137).drop 1).take 1) rfl (gN rfl rfl rfl ?_))))))
       obtain ⟨r154, hx155, hr156⟩ := bd_some hr153
       refine clS C28 rfl rfl rfl rfl (fun w H hH le => w28 x131.old_ 0 999999999 hx155) (gN rfl rfl rfl (nt rfl rfl (pF rfl rfl rfl rfl (m1 rfl ?_))))
       rcases Bool.eq_false_or_eq_true (r154) with hb157 | hb157
       ·have hr158 := if_p hb157 hr156
        refine gN rfl rfl (congrArg not (hb157)) (m1 rfl (gN rfl rfl (congrArg not (hb157)) (m1 rfl (gN rfl rfl (congrArg not (hb157)) (iaP U27 Z48 rfl rfl rfl rfl (lt_of hx132) (gN rfl rfl (congrArg not (hb157)) (fb 2 U48 rfl rfl rfl rfl Z3 (gN rfl rfl (congrArg not (hb157)) (ld G3 rfl rfl ((sS 0 rfl hq137).drop 2) rfl (gN rfl rfl (congrArg not (hb157)) ?_))))))))))
        obtain ⟨r159, hx160, hr161⟩ := bd_some hr158
        refine clS C28 rfl rfl rfl rfl (fun w H hH le => w28 x131.new_ 0 999999999 hx160) (gN rfl rfl (congrArg not (hb157)) (nt rfl rfl (pF rfl rfl (congrArg not (hb157)) rfl (on ?_))))
        cases hr161
        exact cu ⟨rfl, rfl, rfl, tv⟩
       ·have hr162 := if_f hb157 hr156
        refine gF rfl rfl (congrArg not (hb157)) rfl (gF rfl rfl (congrArg not (hb157)) rfl (gF rfl rfl (congrArg not (hb157)) rfl (gF rfl rfl (congrArg not (hb157)) rfl (gF rfl rfl (congrArg not (hb157)) rfl (gF rfl rfl (congrArg not (hb157)) rfl (gF rfl rfl (congrArg not (hb157)) rfl (pT rfl rfl (congrArg not (hb157)) rfl (on ?_))))))))
        cases hr162
        exact cu ⟨rfl, rfl, rfl, tv⟩
     ·rintro a w ⟨hS, hA⟩
      refine TG.ap ?_ hS hA
      refine cb rfl (fun hc166 => ?_) (fun hc166 => ?_)
      ·have hr167 := if_p hc166 hr130
       refine sq (rg (a1 rfl (on (rt_ ?_))))
       cases hr167
       obtain rfl := Fin.out hz53
       cases hr49
       intro a w hS hA
       refine ret1 hA rfl rfl ?_
       exact ⟨rfl, hS.ext⟩
      ·have hr168 := if_f hc166 hr130
       refine sk (rg (m1 rfl (adI rfl rfl rfl (by omega) (a1 rfl (on ?_)))))
       cases hr168
       intro a w hS hA
       exact ⟨_, hz53, hS, hA.cut ⟨rfl, rfl, tv⟩⟩
    ·have hr169 := if_n hc58 hr52
     refine xt rfl ?_
     cases hr169
     obtain rfl := Fin.out hz53
     intro a w hS hA
     exact ⟨_, rfl, hS, hA.cut tv⟩
  ·rintro a w ⟨t50, rfl, hS, hA⟩
   refine TG.ap ?_ hS hA
   refine sq (rg (a1 rfl (on (rt_ ?_))))
   cases hr49
   intro a w hS hA
   refine ret1 hA rfl rfl ?_
   exact ⟨rfl, hS.ext⟩

theorem w22 {M : Prop} {W : World} {H : Hp} (hH : H.le (hp W)) {cs_l_0 : List Value} (l_0 : Lexicon) (h_l_0 : (RLexicon) H cs_l_0 l_0) {ad_swaps : Option Addr} {cap_swaps : Nat} {swaps : List Swap} (h_swaps : Sl (Flat encSwap) 3 H ad_swaps cap_swaps swaps) {r : Int} (hr : m22 l_0 swaps = some r) : Calls Tryz.prog 22 [.agg cs_l_0.toArray, .slice ad_swaps swaps.length cap_swaps].toArray W (RetS M W (.int .i64 r)) := by
 have hh_l_0 := h_l_0
 obtain ⟨ad1, cap2, ad4, cap5, ad7, cap8, rfl, hl3, hl6, hl9⟩ := h_l_0
 have := hl3.len
 have := hl6.len
 have := hl9.len
 have := h_swaps.len
 unfold m22 at hr
 refine enterG (M := M) Tryz.func22 rfl Tryz.ntmps22 rfl hH ?_
 refine sq (rg (bI (cs := [.slice ad1 l_0.numbers.length cap2, .slice ad4 l_0.names.length cap5, .slice ad7 l_0.nots.length cap8]) rfl rfl rfl fun q10 K11 hK12 => (a1 rfl (on (sq (sq (rg (ldA G26 Z26 rfl rfl (sS 0 rfl hK12) rfl ?_))))))))
 obtain ⟨r13, hx14, hr15⟩ := bd_some hr
 refine clS C34 rfl rfl rfl rfl (fun w H hH le => w34 hH l_0 (RLexicon.mono _ _ _ _ (le.at 1 rfl) hh_l_0) hx14) (a1 rfl (on (sq (rg (m1 rfl (neI rfl rfl rfl (on ?_)))))))
 refine ci rfl (fun hc19 => ?_) (fun hc19 => ?_)
 ·have hr20 := if_p hc19 hr15
  refine sq (rg (m1 rfl (a1 rfl (on (rt_ ?_)))))
  cases hr20
  intro a w hS hA
  refine ret1 hA rfl rfl ?_
  exact ⟨rfl, hS.ext⟩
 ·have hr21 := if_n hc19 hr15
  refine sk (sq (rg (m1 rfl ?_)))
  obtain ⟨r22, hx23, hr24⟩ := bd_some hr21
  refine clS C27 rfl rfl rfl rfl (fun w H hH le => w27 hH (h_swaps.mono (Flat.mono _) (le.at 1 rfl)) hx23) (a1 rfl (on (rt_ ?_)))
  cases hr24
  intro a w hS hA
  refine ret1 hA rfl rfl ?_
  exact ⟨rfl, hS.ext⟩

theorem w23 {M : Prop} {W : World} {H : Hp} (hH : H.le (hp W)) {ad_l_0 : Option Addr} {cap_l_0 : Nat} {l_0 : List Bytes} (h_l_0 : Sl (Flat encS) 1 H ad_l_0 cap_l_0 l_0) {r : Int} (hr : m23 l_0 = some r) : Calls Tryz.prog 23 [.slice ad_l_0 l_0.length cap_l_0].toArray W (RetS M W (.int .i64 r)) := by
 have := h_l_0.len
 unfold m23 at hr
 refine enterG (M := M) Tryz.func23 rfl Tryz.ntmps23 rfl hH ?_
 refine sq (rg (a1 rfl (on (sq (sq (rg (m1 rfl (lnL U24 rfl rfl (gtI rfl rfl rfl (on ?_))))))))))
 refine ci rfl (fun hc4 => ?_) (fun hc4 => ?_)
 ·have hr5 := if_p hc4 hr
  refine sq (rg (a1 rfl (on (rt_ ?_))))
  cases hr5
  intro a w hS hA
  refine ret1 hA rfl rfl ?_
  exact ⟨rfl, hS.ext⟩
 ·have hr6 := if_n hc4 hr
  refine sk (sq (sq (rg (m1 rfl ?_))))
  obtain ⟨r7, hx8, hr9⟩ := bd_some hr6
  refine clS C55 rfl rfl rfl rfl (fun w H hH le => w55 hH (h_l_0.mono (Flat.mono _) (le.at 0 rfl)) 80 hx8) (nt rfl rfl (on ?_))
  refine cb rfl (fun hc13 => ?_) (fun hc13 => ?_)
  ·replace hc13 := nbt hc13
   have hr14 := if_f hc13 hr9
   refine sq (rg (a1 rfl (on (rt_ ?_))))
   cases hr14
   intro a w hS hA
   refine ret1 hA rfl rfl ?_
   exact ⟨rfl, hS.ext⟩
  ·replace hc13 := nbf hc13
   have hr15 := if_p hc13 hr9
   refine sk (sq (rg (a1 rfl (on (rt_ ?_)))))
   cases hr15
   intro a w hS hA
   refine ret1 hA rfl rfl ?_
   exact ⟨rfl, hS.ext⟩

theorem w81 {M : Prop} {W : World} (s_0 : Bytes) {r : Int} (hr : m81 s_0 = some r) : Calls Tryz.prog 81 [.string (bs s_0)].toArray W (RetS M W (.int .i64 r)) := by
 unfold m81 at hr
 refine enterG (M := M) Tryz.func81 rfl Tryz.ntmps81 rfl (Hp.le.refl _) ?_
 refine sq (rg (a1 rfl (on (sq (sq ?_)))))
 obtain ⟨t13, hx14, hr15⟩ := bd_some hr
 refine jn (fun a w => St M W (hp W) [(hp W)] [] w ∧ Has [] 48 a [(0, .string (bs s_0)), (22, .bool t13)]) ?_ ?_
 ·refine rg (m1 rfl (lnS U9 rfl rfl (ltI rfl rfl rfl (m1 rfl ?_))))
  by_cases hb16 : (s_0.length : Int) < 1
  ·have hr17 := if_p hb16 hx14
   refine gf' hb16 rfl (gf' hb16 rfl (gf' hb16 rfl (pt hb16 rfl rfl (m1 rfl (gF rfl rfl rfl rfl (gF rfl rfl rfl rfl (gF rfl rfl rfl rfl (gF rfl rfl rfl rfl (gU rfl rfl rfl (gU rfl rfl rfl (gU rfl rfl rfl ?_)))))))))))
   refine gF rfl rfl rfl rfl (pT rfl rfl rfl rfl (on ?_))
   cases hr17
   exact cu ⟨rfl, rfl, tv⟩
  ·have hr18 := if_n hb16 hx14
   refine gt' hb16 rfl (m1 rfl (gt' hb16 rfl (lnS U9 rfl rfl (gt' hb16 rfl (gtI rfl rfl rfl (pf hb16 rfl rfl (m1 rfl ?_)))))))
   by_cases hb19 : 9 < (s_0.length : Int)
   ·have hr20 := if_p hb19 hr18
    refine gf' hb19 rfl (gf' hb19 rfl (gf' hb19 rfl (gf' hb19 rfl (gU rfl rfl rfl (gU rfl rfl rfl (gU rfl rfl rfl (gf' hb19 rfl (pt hb19 rfl rfl (on ?_)))))))))
    cases hr20
    exact cu ⟨rfl, rfl, tv⟩
   ·have hr21 := if_n hb19 hr18
    refine gt' hb19 rfl (m1 rfl (gt' hb19 rfl ?_))
    obtain ⟨x22, hx23, hr24⟩ := bd_some hr21
    have := UInt8.toNat_lt x22
    refine ixS U9 rfl rfl rfl rfl hx23 (gt' hb19 rfl (eqI rfl rfl rfl (gt' hb19 rfl (m1 rfl ?_))))
    by_cases hb25 : (x22.toNat : Int) = 48
    ·have hr26 := if_p hb25 hr24
     refine gt hb25 rfl (m1 rfl (gt hb25 rfl (lnS U9 rfl rfl (gt hb25 rfl (gtI rfl rfl rfl (gt' hb19 rfl (pt hb25 rfl rfl (pf hb19 rfl rfl (on ?_)))))))))
     cases hr26
     exact cu ⟨rfl, rfl, tv⟩
    ·have hr27 := if_n hb25 hr24
     refine gf hb25 rfl (gf hb25 rfl (gf hb25 rfl (gt' hb19 rfl (pf hb25 rfl rfl (pf hb19 rfl rfl (on ?_))))))
     cases hr27
     exact cu ⟨rfl, rfl, tv⟩
 ·rintro a w ⟨hS, hA⟩
  refine TG.ap ?_ hS hA
  refine cb rfl (fun hc31 => ?_) (fun hc31 => ?_)
  ·have hr32 := if_p hc31 hr15
   refine sq (rg (a1 rfl (on (rt_ ?_))))
   cases hr32
   intro a w hS hA
   refine ret1 hA rfl rfl ?_
   exact ⟨rfl, hS.ext⟩
  ·have hr33 := if_f hc31 hr15
   refine sk (sq (rg (a1 rfl (on (sq (sq (rg (a1 rfl (on ?_)))))))))
   obtain ⟨e84, hl85, hr86⟩ := bd_some hr33
   refine jn (fun a w => ∃ t87, e84 = .inl t87 ∧ St M W (hp W) [(hp W)] [] w ∧ Has [] 48 a [(3, .int .i64 t87)]) ?_ ?_
   ·refine bk ?_
    refine lp hl85 (fun s88 a w => St M W (hp W) [(hp W)] [] w ∧ Has [] 48 a [(0, .string (bs s_0)), (3, .int .i64 s88.2), (4, .int .i64 (s88.1 : Int))]) ?_ ?_
    ·exact cu ⟨rfl, rfl, rfl, tv⟩
    ·rintro j s88 y91 hr89 hz90 a w ⟨hS, hA⟩
     refine TG.ap ?_ hS hA
     unfold m81_1 at hr89
     refine sq (sq (rg (m1 rfl (m1 rfl (lnS U9 rfl rfl (ltI rfl rfl rfl (on ?_)))))))
     refine ci rfl (fun hc95 => ?_) (fun hc95 => ?_)
     ·have hr96 := if_p hc95 hr89
      refine sk (sq (bk (sq (sq ?_))))
      obtain ⟨t122, hx123, hr124⟩ := bd_some hr96
      refine jn (fun a w => St M W (hp W) [(hp W)] [] w ∧ Has [] 48 a [(0, .string (bs s_0)), (3, .int .i64 s88.2), (4, .int .i64 (s88.1 : Int)), (38, .bool t122)]) ?_ ?_
      ·refine rg (m1 rfl (m1 rfl ?_))
       obtain ⟨x125, hx126, hr127⟩ := bd_some hx123
       have := UInt8.toNat_lt x125
       refine ixS U9 rfl rfl rfl rfl hx126 (ltI rfl rfl rfl (m1 rfl ?_))
       by_cases hb128 : (x125.toNat : Int) < 48
       ·have hr129 := if_p hb128 hr127
        refine gf' hb128 rfl (gf' hb128 rfl (gf' hb128 rfl (gf' hb128 rfl (pt hb128 rfl rfl (on ?_)))))
        cases hr129
        exact cu ⟨rfl, rfl, rfl, rfl, tv⟩
       ·have hr130 := if_n hb128 hr127
        refine gt' hb128 rfl (m1 rfl (gt' hb128 rfl (m1 rfl (gt' hb128 rfl (ixS U9 rfl rfl rfl rfl hx126 (gt' hb128 rfl (gtI rfl rfl rfl (pf hb128 rfl rfl (on ?_)))))))))
        cases hr130
        exact cu ⟨rfl, rfl, rfl, rfl, tv⟩
      ·rintro a w ⟨hS, hA⟩
       refine TG.ap ?_ hS hA
       refine cb rfl (fun hc134 => ?_) (fun hc134 => ?_)
       ·have hr135 := if_p hc134 hr124
        refine sq (rg (a1 rfl (on (rt_ ?_))))
        cases hr135
        obtain rfl := Fin.out hz90
        cases hr86
        intro a w hS hA
        refine ret1 hA rfl rfl ?_
        exact ⟨rfl, hS.ext⟩
       ·have hr136 := if_f hc134 hr124
        refine sk (rg (m1 rfl ?_))
        obtain ⟨hk137, hr138⟩ := chk_some hr136
        refine mlI rfl rfl rfl hk137 (m1 rfl (m1 rfl ?_))
        obtain ⟨x139, hx140, hr141⟩ := bd_some hr138
        have := UInt8.toNat_lt x139
        refine ixS U9 rfl rfl rfl rfl hx140 ?_
        obtain ⟨hk142, hr143⟩ := chk_some hr141
        refine wrI ((x139.toNat : Int) - 48) rfl rfl rfl (wr_u8 hk142) (cvI U5 U3 rfl rfl (wr_i64 (by omega)) ?_)
        obtain ⟨hk144, hr145⟩ := chk_some hr143
        refine adI rfl rfl rfl hk144 (a1 rfl (on (rg (m1 rfl ?_))))
        obtain ⟨hk146, hr147⟩ := chk_some hr145
        refine adI rfl rfl rfl hk146 (a1 rfl (on ?_))
        cases hr147
        intro a w hS hA
        exact ⟨_, hz90, hS, hA.cut ⟨rfl, rfl, rfl, tv⟩⟩
     ·have hr148 := if_n hc95 hr89
      refine xt rfl ?_
      cases hr148
      obtain rfl := Fin.out hz90
      intro a w hS hA
      exact ⟨_, rfl, hS, hA.cut ⟨rfl, tv⟩⟩
   ·rintro a w ⟨t87, rfl, hS, hA⟩
    refine TG.ap ?_ hS hA
    refine sq (rg (m1 rfl (a1 rfl (on (rt_ ?_)))))
    cases hr86
    intro a w hS hA
    refine ret1 hA rfl rfl ?_
    exact ⟨rfl, hS.ext⟩

theorem w57 {M : Prop} {W : World} {H : Hp} (hH : H.le (hp W)) {cs_l_0 : List Value} (l_0 : Lexicon) (h_l_0 : (RLexicon) H cs_l_0 l_0) (s_1 : Bytes) {r : Mark} (hr : m57 l_0 s_1 = some r) : Calls Tryz.prog 57 [.agg cs_l_0.toArray, .string (bs s_1)].toArray W (RetS M W (.agg (encMark r).toArray)) := by
 have hh_l_0 := h_l_0
 obtain ⟨ad1, cap2, ad4, cap5, ad7, cap8, rfl, hl3, hl6, hl9⟩ := h_l_0
 have := hl3.len
 have := hl6.len
 have := hl9.len
 unfold m57 at hr
 refine enterG (M := M) Tryz.func57 rfl Tryz.ntmps57 rfl hH ?_
 refine sq (rg (bI (cs := [.slice ad1 l_0.numbers.length cap2, .slice ad4 l_0.names.length cap5, .slice ad7 l_0.nots.length cap8]) rfl rfl rfl fun q10 K11 hK12 => (al 1 (cs := [.int .u8 0, .int .i64 0]) Tryz.zeroValue113 rfl rfl fun b13 => (on (sq (sq (rg (a1 rfl (on ?_)))))))))
 obtain ⟨e29, hl30, hr31⟩ := bd_some hr
 refine jn (fun a w => ∃ t32, e29 = .inl t32 ∧ St M W H [K11, H] [(1, cel b13 113 [.int .u8 0, .int .i64 0])] w ∧ Has [] 83 a [(1, .string (bs s_1)), (2, .pointer (some q10)), (4, .pointer (some (⟨b13, 0, none⟩)))]) ?_ ?_
 ·refine bk ?_
  refine lp hl30 (fun s33 a w => St M W H [K11, H] [(1, cel b13 113 [.int .u8 0, .int .i64 0])] w ∧ Has [] 83 a [(1, .string (bs s_1)), (2, .pointer (some q10)), (4, .pointer (some (⟨b13, 0, none⟩))), (5, .int .i64 (s33 : Int))]) ?_ ?_
  ·exact cu ⟨rfl, rfl, rfl, rfl, tv⟩
  ·rintro j s33 y36 hr34 hz35 a w ⟨hS, hA⟩
   refine TG.ap ?_ hS hA
   unfold m57_1 at hr34
   refine sq (sq (rg (m1 rfl (fb 0 U26 rfl rfl rfl rfl Z22 (ld G22 rfl rfl ((sS 0 rfl hK12).take 1) rfl (lnL U22 rfl rfl (ltI rfl rfl rfl (on ?_))))))))
   refine ci rfl (fun hc40 => ?_) (fun hc40 => ?_)
   ·have hr41 := if_p hc40 hr34
    refine sk (sq (bk (sq (rg (fb 0 U26 rfl rfl rfl rfl Z22 (ld G22 rfl rfl ((sS 0 rfl hK12).take 1) rfl (m1 rfl ?_)))))))
    obtain ⟨x53, hx54, hr55⟩ := bd_some hr41
    obtain ⟨p56, rfl⟩ := hl3.adr hx54
    obtain ⟨cs57, hcs58, hq59, hr60⟩ := hl3.at hx54
    obtain rfl := hr60
    refine iaP U22 Z112 rfl rfl rfl rfl (lt_of hx54) (fb 0 U112 rfl rfl rfl rfl Z9 (ld G9 rfl rfl ((sS 1 rfl hq59).take 1) rfl (m1 rfl (eqS rfl rfl rfl (on ?_)))))
    refine ci rfl (fun hc64 => ?_) (fun hc64 => ?_)
    ·have hr65 := if_p hc64 hr55
     refine sq (rg (fb 0 U26 rfl rfl rfl rfl Z22 (ld G22 rfl rfl ((sS 0 rfl hK12).take 1) rfl (m1 rfl (iaP U22 Z112 rfl rfl rfl rfl (lt_of hx54) (fb 1 U112 rfl rfl rfl rfl Z3 (ld G3 rfl rfl ((sS 1 rfl hq59).drop 1) rfl (bu (cs := [.int .u8 1, .int .i64 x53.value]) T4.B113 rfl rfl rfl (sto 1 (cs := [.int .u8 1, .int .i64 x53.value]) Z113 rfl rfl rfl rfl rfl rfl rfl (on (rt_ ?_)))))))))))
     cases hr65
     obtain rfl := Fin.out hz35
     cases hr31
     intro a w hS hA
     refine rc1 hA rfl (ResAt.cell rfl (loadsA G113 Z113 (cell_at (hS.get (t := 1) rfl)) rfl)) ?_
     exact ⟨rfl, hS.ext⟩
    ·have hr66 := if_n hc64 hr55
     refine sk (rg (m1 rfl (adI rfl rfl rfl (by omega) (a1 rfl (on ?_)))))
     cases hr66
     intro a w hS hA
     exact ⟨_, hz35, hS, hA.cut ⟨rfl, rfl, rfl, rfl, tv⟩⟩
   ·have hr67 := if_n hc40 hr34
    refine xt rfl ?_
    cases hr67
    obtain rfl := Fin.out hz35
    intro a w hS hA
    exact ⟨_, rfl, hS, hA.cut ⟨rfl, rfl, rfl, tv⟩⟩
 ·rintro a w ⟨t32, rfl, hS, hA⟩
  refine TG.ap ?_ hS hA
  refine sq (sq (rg (a1 rfl (on ?_))))
  obtain ⟨e100, hl101, hr102⟩ := bd_some hr31
  refine jn (fun a w => ∃ t103, e100 = .inl t103 ∧ St M W H [K11, H] [(1, cel b13 113 [.int .u8 0, .int .i64 0])] w ∧ Has [] 83 a [(1, .string (bs s_1)), (2, .pointer (some q10)), (4, .pointer (some (⟨b13, 0, none⟩)))]) ?_ ?_
  ·refine bk ?_
   refine lp hl101 (fun s104 a w => St M W H [K11, H] [(1, cel b13 113 [.int .u8 0, .int .i64 0])] w ∧ Has [] 83 a [(1, .string (bs s_1)), (2, .pointer (some q10)), (4, .pointer (some (⟨b13, 0, none⟩))), (6, .int .i64 (s104 : Int))]) ?_ ?_
   ·exact cu ⟨rfl, rfl, rfl, rfl, tv⟩
   ·rintro j s104 y107 hr105 hz106 a w ⟨hS, hA⟩
    refine TG.ap ?_ hS hA
    unfold m57_2 at hr105
    refine sq (sq (rg (m1 rfl (fb 1 U26 rfl rfl rfl rfl Z23 (ld G23 rfl rfl (((sS 0 rfl hK12).drop 1).take 1) rfl (lnL U23 rfl rfl (ltI rfl rfl rfl (on ?_))))))))
    refine ci rfl (fun hc111 => ?_) (fun hc111 => ?_)
    ·have hr112 := if_p hc111 hr105
     refine sk (sq (bk (sq (rg (a1 rfl (on ?_))))))
     obtain ⟨e168, hl169, hr170⟩ := bd_some hr112
     refine jn (fun a w => ∃ t171, e168 = .inl t171 ∧ St M W H [K11, H] [(1, cel b13 113 [.int .u8 0, .int .i64 0])] w ∧ Has [] 83 a [(1, .string (bs s_1)), (2, .pointer (some q10)), (4, .pointer (some (⟨b13, 0, none⟩))), (6, .int .i64 (s104 : Int))]) ?_ ?_
     ·refine bk ?_
      refine lp hl169 (fun s172 a w => St M W H [K11, H] [(1, cel b13 113 [.int .u8 0, .int .i64 0])] w ∧ Has [] 83 a [(1, .string (bs s_1)), (2, .pointer (some q10)), (4, .pointer (some (⟨b13, 0, none⟩))), (6, .int .i64 (s104 : Int)), (7, .int .i64 (s172 : Int))]) ?_ ?_
      ·exact cu ⟨rfl, rfl, rfl, rfl, rfl, tv⟩
      ·rintro j s172 y175 hr173 hz174 a w ⟨hS, hA⟩
       refine TG.ap ?_ hS hA
       unfold m57_3 at hr173
       refine sq (sq (rg (m1 rfl (fb 1 U26 rfl rfl rfl rfl Z23 (ld G23 rfl rfl (((sS 0 rfl hK12).drop 1).take 1) rfl (m1 rfl ?_))))))
       obtain ⟨x176, hx177, hr178⟩ := bd_some hr173
       obtain ⟨p179, rfl⟩ := hl6.adr hx177
       obtain ⟨cs180, hcs181, hq182, hr183⟩ := hl6.at hx177
       have hr184 := hr183
       obtain ⟨ad185, cap186, rfl, hl187⟩ := hr183
       have := hl187.len
       refine iaP U23 Z24 rfl rfl rfl rfl (lt_of hx177) (ld G24 rfl rfl (sS 1 rfl hq182) rfl (lnL U24 rfl rfl (ltI rfl rfl rfl (on ?_))))
       refine ci rfl (fun hc191 => ?_) (fun hc191 => ?_)
       ·have hr192 := if_p hc191 hr178
        refine sk (sq (bk (sq (rg (fb 1 U26 rfl rfl rfl rfl Z23 (ld G23 rfl rfl (((sS 0 rfl hK12).drop 1).take 1) rfl (m1 rfl (iaP U23 Z24 rfl rfl rfl rfl (lt_of hx177) (ld G24 rfl rfl (sS 1 rfl hq182) rfl (m1 rfl ?_))))))))))
        obtain ⟨x204, hx205, hr206⟩ := bd_some hr192
        obtain ⟨p207, rfl⟩ := hl187.adr hx205
        obtain ⟨cs208, hcs209, hq210, hr211⟩ := hl187.at hx205
        obtain rfl := hr211
        refine iaP U24 Z9 rfl rfl rfl rfl (lt_of hx205) (ld G9 rfl rfl (sS 1 rfl hq210) rfl (m1 rfl (eqS rfl rfl rfl (on ?_))))
        refine ci rfl (fun hc215 => ?_) (fun hc215 => ?_)
        ·have hr216 := if_p hc215 hr206
         refine sq (rg (m1 rfl (bu (cs := [.int .u8 2, .int .i64 (s104 : Int)]) T4.B113 rfl rfl rfl (sto 1 (cs := [.int .u8 2, .int .i64 (s104 : Int)]) Z113 rfl rfl rfl rfl rfl rfl rfl (on (rt_ ?_))))))
         cases hr216
         obtain rfl := Fin.out hz174
         cases hr170
         obtain rfl := Fin.out hz106
         cases hr102
         intro a w hS hA
         refine rc1 hA rfl (ResAt.cell rfl (loadsA G113 Z113 (cell_at (hS.get (t := 1) rfl)) rfl)) ?_
         exact ⟨rfl, hS.ext⟩
        ·have hr217 := if_n hc215 hr206
         refine sk (rg (m1 rfl (adI rfl rfl rfl (by omega) (a1 rfl (on ?_)))))
         cases hr217
         intro a w hS hA
         exact ⟨_, hz174, hS, hA.cut ⟨rfl, rfl, rfl, rfl, rfl, tv⟩⟩
       ·have hr218 := if_n hc191 hr178
        refine xt rfl ?_
        cases hr218
        obtain rfl := Fin.out hz174
        intro a w hS hA
        exact ⟨_, rfl, hS, hA.cut ⟨rfl, rfl, rfl, rfl, tv⟩⟩
     ·rintro a w ⟨t171, rfl, hS, hA⟩
      refine TG.ap ?_ hS hA
      refine rg (m1 rfl (adI rfl rfl rfl (by omega) (a1 rfl (on ?_))))
      cases hr170
      intro a w hS hA
      exact ⟨_, hz106, hS, hA.cut ⟨rfl, rfl, rfl, rfl, tv⟩⟩
    ·have hr219 := if_n hc111 hr105
     refine xt rfl ?_
     cases hr219
     obtain rfl := Fin.out hz106
     intro a w hS hA
     exact ⟨_, rfl, hS, hA.cut ⟨rfl, rfl, rfl, tv⟩⟩
  ·rintro a w ⟨t103, rfl, hS, hA⟩
   refine TG.ap ?_ hS hA
   refine sq (sq (rg (a1 rfl (on ?_))))
   obtain ⟨e235, hl236, hr237⟩ := bd_some hr102
   refine jn (fun a w => ∃ t238, e235 = .inl t238 ∧ St M W H [K11, H] [(1, cel b13 113 [.int .u8 0, .int .i64 0])] w ∧ Has [] 83 a [(1, .string (bs s_1)), (4, .pointer (some (⟨b13, 0, none⟩)))]) ?_ ?_
   ·refine bk ?_
    refine lp hl236 (fun s239 a w => St M W H [K11, H] [(1, cel b13 113 [.int .u8 0, .int .i64 0])] w ∧ Has [] 83 a [(1, .string (bs s_1)), (2, .pointer (some q10)), (4, .pointer (some (⟨b13, 0, none⟩))), (8, .int .i64 (s239 : Int))]) ?_ ?_
    ·exact cu ⟨rfl, rfl, rfl, rfl, tv⟩
    ·rintro j s239 y242 hr240 hz241 a w ⟨hS, hA⟩
     refine TG.ap ?_ hS hA
     unfold m57_4 at hr240
     refine sq (sq (rg (m1 rfl (fb 2 U26 rfl rfl rfl rfl Z24 (ld G24 rfl rfl ((sS 0 rfl hK12).drop 2) rfl (lnL U24 rfl rfl (ltI rfl rfl rfl (on ?_))))))))
     refine ci rfl (fun hc246 => ?_) (fun hc246 => ?_)
     ·have hr247 := if_p hc246 hr240
      refine sk (sq (bk (sq (rg (fb 2 U26 rfl rfl rfl rfl Z24 (ld G24 rfl rfl ((sS 0 rfl hK12).drop 2) rfl (m1 rfl ?_)))))))
      obtain ⟨x259, hx260, hr261⟩ := bd_some hr247
      obtain ⟨p262, rfl⟩ := hl9.adr hx260
      obtain ⟨cs263, hcs264, hq265, hr266⟩ := hl9.at hx260
      obtain rfl := hr266
      refine iaP U24 Z9 rfl rfl rfl rfl (lt_of hx260) (ld G9 rfl rfl (sS 1 rfl hq265) rfl (m1 rfl (eqS rfl rfl rfl (on ?_))))
      refine ci rfl (fun hc270 => ?_) (fun hc270 => ?_)
      ·have hr271 := if_p hc270 hr261
       refine sq (rg (bu (cs := [.int .u8 3, .int .i64 0]) T4.B113 rfl rfl rfl (sto 1 (cs := [.int .u8 3, .int .i64 0]) Z113 rfl rfl rfl rfl rfl rfl rfl (on (rt_ ?_)))))
       cases hr271
       obtain rfl := Fin.out hz241
       cases hr237
       intro a w hS hA
       refine rc1 hA rfl (ResAt.cell rfl (loadsA G113 Z113 (cell_at (hS.get (t := 1) rfl)) rfl)) ?_
       exact ⟨rfl, hS.ext⟩
      ·have hr272 := if_n hc270 hr261
       refine sk (rg (m1 rfl (adI rfl rfl rfl (by omega) (a1 rfl (on ?_)))))
       cases hr272
       intro a w hS hA
       exact ⟨_, hz241, hS, hA.cut ⟨rfl, rfl, rfl, rfl, tv⟩⟩
     ·have hr273 := if_n hc246 hr240
      refine xt rfl ?_
      cases hr273
      obtain rfl := Fin.out hz241
      intro a w hS hA
      exact ⟨_, rfl, hS, hA.cut ⟨rfl, rfl, tv⟩⟩
   ·rintro a w ⟨t238, rfl, hS, hA⟩
    refine TG.ap ?_ hS hA
    refine sq (sq (rg (m1 rfl ?_)))
    obtain ⟨r274, hx275, hr276⟩ := bd_some hr237
    refine clS C81 rfl rfl rfl rfl (fun w H hH le => w81 s_1 hx275) (a1 rfl (on (sq (rg (m1 rfl (geI rfl rfl rfl (on ?_)))))))
    refine ci rfl (fun hc280 => ?_) (fun hc280 => ?_)
    ·have hr281 := if_p hc280 hr276
     refine sq (rg (m1 rfl (bu (cs := [.int .u8 1, .int .i64 r274]) T4.B113 rfl rfl rfl (sto 1 (cs := [.int .u8 1, .int .i64 r274]) Z113 rfl rfl rfl rfl rfl rfl rfl (on (rt_ ?_))))))
     cases hr281
     intro a w hS hA
     refine rc1 hA rfl (ResAt.cell rfl (loadsA G113 Z113 (cell_at (hS.get (t := 1) rfl)) rfl)) ?_
     exact ⟨rfl, hS.ext⟩
    ·have hr282 := if_n hc280 hr276
     refine sk (sq (rg (bu (cs := [.int .u8 0, .int .i64 0]) T4.B113 rfl rfl rfl (sto 1 (cs := [.int .u8 0, .int .i64 0]) Z113 rfl rfl rfl rfl rfl rfl rfl (on (rt_ ?_))))))
     cases hr282
     intro a w hS hA
     refine rc1 hA rfl (ResAt.cell rfl (loadsA G113 Z113 (cell_at (hS.get (t := 1) rfl)) rfl)) ?_
     exact ⟨rfl, hS.ext⟩

theorem w25 {M : Prop} {W : World} {H : Hp} (hH : H.le (hp W)) {cs_l_0 : List Value} (l_0 : Lexicon) (h_l_0 : (RLexicon) H cs_l_0 l_0) {ad_texts : Option Addr} {cap_texts : Nat} {texts : List Bytes} (h_texts : Sl (Flat encS) 1 H ad_texts cap_texts texts) {r : List Mark} (hr : m25 l_0 texts = some r) : Calls Tryz.prog 25 [.agg cs_l_0.toArray, .slice ad_texts texts.length cap_texts].toArray W (RetK M H W (fun v K => ∃ (ad0 : Option Addr) (cap0 : Nat), v = .slice ad0 r.length cap0 ∧ Sl (Flat encMark) 2 K ad0 cap0 r)) := by
 have hh_l_0 := h_l_0
 obtain ⟨ad1, cap2, ad4, cap5, ad7, cap8, rfl, hl3, hl6, hl9⟩ := h_l_0
 have := hl3.len
 have := hl6.len
 have := hl9.len
 have := h_texts.len
 unfold m25 at hr
 refine enterG (M := M) Tryz.func25 rfl Tryz.ntmps25 rfl hH ?_
 refine sq (rg (bI (cs := [.slice ad1 l_0.numbers.length cap2, .slice ad4 l_0.names.length cap5, .slice ad7 l_0.nots.length cap8]) rfl rfl rfl fun q10 K11 hK12 => (a1 rfl (on (sq (rg (a1 rfl (on (sq (sq (rg ?_)))))))))))
 refine a1 rfl (on (TG.nilRow 3 113 2 (TG.as 3 (z := Own.list none 0 113 2 encMark ([] : List Mark)) rfl rfl ?_)))
 obtain ⟨e111, hl112, hr113⟩ := bd_some hr
 refine jn (fun a w => ∃ (ad114 : Option Addr) (cap115 : Nat), St M W H [K11, H] [(3, Own.list ad114 cap115 113 2 encMark e111)] w ∧ Has [] 28 a [(5, .slice ad114 e111.length cap115)]) ?_ ?_
 ·refine bk ?_
  refine lp hl112 (fun s116 a w => ∃ (ad117 : Option Addr) (cap118 : Nat), St M W H [K11, H] [(3, Own.list ad117 cap118 113 2 encMark s116.2)] w ∧ Has [] 28 a [(1, .slice ad_texts texts.length cap_texts), (2, .pointer (some q10)), (5, .slice ad117 s116.2.length cap118), (6, .int .i64 (s116.1 : Int))]) ?_ ?_
  ·intro a w hS hA
   exact ⟨none, 0, hS, hA.cut ⟨rfl, rfl, rfl, rfl, tv⟩⟩
  ·rintro j s116 y121 hr119 hz120 a w ⟨ad117, cap118, hS, hA⟩
   refine TG.ap ?_ hS hA
   unfold m25_1 at hr119
   refine sq (sq (rg (m1 rfl (m1 rfl (lnL U24 rfl rfl (ltI rfl rfl rfl (on ?_)))))))
   refine ci rfl (fun hc125 => ?_) (fun hc125 => ?_)
   ·have hr126 := if_p hc125 hr119
    refine sk (sq (bk (sq ?_)))
    obtain ⟨x151, hx152, hr153⟩ := bd_some hr126
    obtain ⟨p154, rfl⟩ := h_texts.adr hx152
    obtain ⟨cs155, hcs156, hq157, hr158⟩ := h_texts.at hx152
    obtain rfl := hr158
    obtain ⟨r159, hx160, hr161⟩ := bd_some hr153
    refine drG2 7 6 mixed (by kernel_rfl) rfl rfl (DG.detA rfl rfl rfl (fun τ a w K hS hA hF => TG.pa hS hA (ldA G26 Z26 rfl rfl (sS 1 rfl hK12) rfl fin1)) (DG.detA rfl rfl rfl (fun τ a w K hS hA hF => TG.pa hS hA (m1 rfl fin1)) (DG.detA rfl rfl rfl (fun τ a w K hS hA hF => TG.pa hS hA (m1 rfl fin1)) (DG.detA rfl rfl rfl (fun τ a w K hS hA hF => TG.pa hS hA (iaP U24 Z9 rfl rfl rfl rfl (lt_of hx152) fin1)) (DG.detA rfl rfl rfl (fun τ a w K hS hA hF => TG.pa hS hA (ld G9 rfl rfl (sS 2 rfl hq157) rfl fin1)) (DG.detA rfl rfl rfl (fun τ a w K hS hA hF => TG.pa hS hA (clS C57 rfl rfl rfl rfl (fun w H hH le => w57 hH l_0 (RLexicon.mono _ _ _ _ (le.at 2 rfl) hh_l_0) x151 hx160) fin1)) (DG.turn (α := Nat) 0 (fun b162 => .pointer (some (⟨b162, 0, none⟩))) (fun _ _ => True) (fun b162 => [(1, cel b162 113 [.int .u8 0, .int .i64 0]), (3, Own.list ad117 cap118 113 2 encMark s116.2)]) rfl (fun _ _ _ _ h => h) (by kernel_rfl) rfl rfl (fun a w K hS hA hF => TG.pa hS hA (al 1 (cs := [.int .u8 0, .int .i64 0]) Tryz.zeroValue113 rfl rfl fun b162 => finT (f := fun b162 => .pointer (some (⟨b162, 0, none⟩))) (G := fun _ _ => True) (σ1 := fun b162 => [(1, cel b162 113 [.int .u8 0, .int .i64 0]), (3, Own.list ad117 cap118 113 2 encMark s116.2)]) b162 tv)) fun b162 => (DG.nil fun K163 hF => ?_))))))))
    obtain ⟨_, _⟩ := hF
    refine sto 1 (cs := [.int .u8 r159.kind, .int .i64 r159.value]) Z113 rfl rfl rfl rfl rfl rfl rfl (on (sq (rg (fb 0 U113 rfl rfl rfl rfl Z5 (ld G5 rfl rfl ((sO 1 rfl).take 1) rfl (neI rfl rfl rfl (on ?_)))))))
    obtain ⟨t172, hx173, hr174⟩ := bd_some hr161
    refine jn (fun a w => ∃ (ad175 : Option Addr) (cap176 : Nat), St M W H [K163, K11, H] [(1, cel b162 113 [.int .u8 r159.kind, .int .i64 r159.value]), (3, Own.list ad175 cap176 113 2 encMark t172)] w ∧ Has [] 28 a [(1, .slice (some p154) texts.length cap_texts), (2, .pointer (some q10)), (5, .slice ad175 t172.length cap176), (6, .int .i64 (s116.1 : Int))]) ?_ ?_
    ·refine ci rfl (fun hc177 => ?_) (fun hc177 => ?_)
     ·have hr178 := if_p hc177 hx173
      refine rg (m1 rfl (ldA G113 Z113 rfl rfl (sO 1 rfl) rfl ?_))
      obtain ⟨hk179, hr180⟩ := chk_some hr178
      have := lenA s116.2 [r159]
      refine ap1 3 encMark (l := s116.2) r159 T4.E44 rfl rfl rfl rfl rfl rfl rfl rfl rfl rfl rfl rfl hk179 fun ad181 cap182 u183 => (a1 rfl (on ?_))
      cases hr180
      intro a w hS hA
      exact ⟨ad181, cap182, hS, hA.cut ⟨rfl, rfl, rfl, rfl, tv⟩⟩
     ·have hr184 := if_n hc177 hx173
      refine sk ?_
      cases hr184
      intro a w hS hA
      exact ⟨ad117, cap118, hS, hA.cut ⟨rfl, rfl, rfl, rfl, tv⟩⟩
    ·rintro a w ⟨ad175, cap176, hS, hA⟩
     refine TG.ap ?_ hS hA
     refine rg (m1 rfl (adI rfl rfl rfl (by omega) (a1 rfl (on (TG.del 1 ?_)))))
     cases hr174
     intro a w hS hA
     exact ⟨_, hz120, ad175, cap176, hS.selH [1, 2] rfl, hA.cut ⟨rfl, rfl, rfl, rfl, tv⟩⟩
   ·have hr185 := if_n hc125 hr119
    refine xt rfl ?_
    cases hr185
    obtain rfl := Fin.out hz120
    intro a w hS hA
    exact ⟨ad117, cap118, hS, hA.cut ⟨rfl, tv⟩⟩
 ·rintro a w ⟨ad114, cap115, hS, hA⟩
  refine TG.ap ?_ hS hA
  refine sq (rg (m1 rfl (a1 rfl (on (rt_ ?_)))))
  cases hr113
  intro a w hS hA
  refine ret1 hA rfl rfl ?_
  exact ⟨⟨_, _, rfl, (hS.listOut 3 rfl (fun _ => rfl))⟩, hS.ext⟩

theorem w56 {M : Prop} {W : World} {H : Hp} (hH : H.le (hp W)) {ad_swaps : Option Addr} {cap_swaps : Nat} {swaps : List Swap} (h_swaps : Sl (Flat encSwap) 3 H ad_swaps cap_swaps swaps) {cs_a_1 : List Value} (a_1 : Mark) (h_a_1 : (Flat encMark) H cs_a_1 a_1) {cs_b_2 : List Value} (b_2 : Mark) (h_b_2 : (Flat encMark) H cs_b_2 b_2) {r : Bool} (hr : m56 swaps a_1 b_2 = some r) : Calls Tryz.prog 56 [.slice ad_swaps swaps.length cap_swaps, .agg cs_a_1.toArray, .agg cs_b_2.toArray].toArray W (RetS M W (.bool r)) := by
 have := h_swaps.len
 obtain rfl := h_a_1
 obtain rfl := h_b_2
 unfold m56 at hr
 refine enterG (M := M) Tryz.func56 rfl Tryz.ntmps56 rfl hH ?_
 refine sq (rg (bI (cs := [.int .u8 a_1.kind, .int .i64 a_1.value]) rfl rfl rfl fun q1 K2 hK3 => (bI (cs := [.int .u8 b_2.kind, .int .i64 b_2.value]) rfl rfl rfl fun q4 K5 hK6 => (a1 rfl (on (sq (sq (rg (ldA G113 Z113 rfl rfl (sS 1 rfl hK3) rfl (ldA G113 Z113 rfl rfl (sS 0 rfl hK6) rfl (eqA a_1 b_2 T4.Q113 rfl rfl rfl ?_)))))))))))
 refine on ?_
 refine ci rfl (fun hc10 => ?_) (fun hc10 => ?_)
 ·have hr11 := if_p hc10 hr
  refine sq (rg (a1 rfl (on (rt_ ?_))))
  cases hr11
  intro a w hS hA
  refine ret1 hA rfl rfl ?_
  exact ⟨rfl, hS.ext⟩
 ·have hr12 := if_n hc10 hr
  refine sk (sq (sq (rg (a1 rfl (on ?_)))))
  obtain ⟨e41, hl42, hr43⟩ := bd_some hr12
  refine jn (fun a w => ∃ t44, e41 = .inl t44 ∧ St M W H [K5, K2, H] [] w ∧ Has [] 48 a []) ?_ ?_
  ·refine bk ?_
   refine lp hl42 (fun s45 a w => St M W H [K5, K2, H] [] w ∧ Has [] 48 a [(0, .slice ad_swaps swaps.length cap_swaps), (4, .pointer (some q1)), (5, .pointer (some q4)), (7, .int .i64 (s45 : Int))]) ?_ ?_
   ·exact cu ⟨rfl, rfl, rfl, rfl, tv⟩
   ·rintro j s45 y48 hr46 hz47 a w ⟨hS, hA⟩
    refine TG.ap ?_ hS hA
    unfold m56_1 at hr46
    refine sq (sq (rg (m1 rfl (m1 rfl (lnL U27 rfl rfl (ltI rfl rfl rfl (on ?_)))))))
    refine ci rfl (fun hc52 => ?_) (fun hc52 => ?_)
    ·have hr53 := if_p hc52 hr46
     refine sk (sq (bk (sq (rg (m1 rfl (m1 rfl ?_))))))
     obtain ⟨x78, hx79, hr80⟩ := bd_some hr53
     obtain ⟨p81, rfl⟩ := h_swaps.adr hx79
     obtain ⟨cs82, hcs83, hq84, hr85⟩ := h_swaps.at hx79
     obtain rfl := hr85
     refine iaP U27 Z48 rfl rfl rfl rfl (lt_of hx79) (ldA G48 Z48 rfl rfl (sS 2 rfl hq84) rfl (va (cs := [.int .u8 x78.kind, .int .i64 x78.old_, .int .i64 x78.new_]) Tryz.zeroValue48 Z48 rfl rfl rfl rfl rfl rfl rfl rfl fun q86 K87 hK88 => (on (sq ?_))))
     obtain ⟨t98, hx99, hr100⟩ := bd_some hr80
     refine jn (fun a w => St M W H [K87, K5, K2, H] [] w ∧ Has [] 48 a [(0, .slice (some p81) swaps.length cap_swaps), (4, .pointer (some q1)), (5, .pointer (some q4)), (7, .int .i64 (s45 : Int)), (47, .bool t98)]) ?_ ?_
     ·refine rg (fb 0 U113 rfl rfl rfl rfl Z5 (ld G5 rfl rfl ((sS 2 rfl hK3).take 1) rfl (fb 0 U113 rfl rfl rfl rfl Z5 (ld G5 rfl rfl ((sS 1 rfl hK6).take 1) rfl (eqI rfl rfl rfl (m1 rfl ?_))))))
      by_cases hb101 : a_1.kind = b_2.kind
      ·have hr102 := if_p hb101 hx99
       refine gt hb101 rfl (fb 0 U48 rfl rfl rfl rfl Z5 (gt hb101 rfl (ld G5 rfl rfl ((sS 0 rfl hK88).take 1) rfl (gt hb101 rfl (fb 0 U113 rfl rfl rfl rfl Z5 (gt hb101 rfl (ld G5 rfl rfl ((sS 2 rfl hK3).take 1) rfl (gt hb101 rfl (eqI rfl rfl rfl (pt hb101 rfl rfl (m1 rfl ?_)))))))))))
       by_cases hb103 : x78.kind = a_1.kind
       ·have hr104 := if_p hb103 hr102
        refine gt hb103 rfl (fb 1 U48 rfl rfl rfl rfl Z3 (gt hb103 rfl (ld G3 rfl rfl (((sS 0 rfl hK88).drop 1).take 1) rfl (gt hb103 rfl (fb 1 U113 rfl rfl rfl rfl Z3 (gt hb103 rfl (ld G3 rfl rfl ((sS 2 rfl hK3).drop 1) rfl (gt hb103 rfl (eqI rfl rfl rfl (pt hb103 rfl rfl (m1 rfl ?_)))))))))))
        by_cases hb105 : x78.old_ = a_1.value
        ·have hr106 := if_p hb105 hr104
         refine gt hb105 rfl (fb 2 U48 rfl rfl rfl rfl Z3 (gt hb105 rfl (ld G3 rfl rfl ((sS 0 rfl hK88).drop 2) rfl (gt hb105 rfl (fb 1 U113 rfl rfl rfl rfl Z3 (gt hb105 rfl (ld G3 rfl rfl ((sS 1 rfl hK6).drop 1) rfl (gt hb105 rfl (eqI rfl rfl rfl (pt hb105 rfl rfl (on ?_)))))))))))
         cases hr106
         exact cu ⟨rfl, rfl, rfl, rfl, rfl, tv⟩
        ·have hr107 := if_n hb105 hr104
         refine gf hb105 rfl (gf hb105 rfl (gf hb105 rfl (gf hb105 rfl (gf hb105 rfl (pf hb105 rfl rfl (on ?_))))))
         cases hr107
         exact cu ⟨rfl, rfl, rfl, rfl, rfl, tv⟩
       ·have hr108 := if_n hb103 hr102
        refine gf hb103 rfl (gf hb103 rfl (gf hb103 rfl (gf hb103 rfl (gf hb103 rfl (pf hb103 rfl rfl (m1 rfl (gF rfl rfl rfl rfl (gF rfl rfl rfl rfl (gF rfl rfl rfl rfl (gF rfl rfl rfl rfl (gF rfl rfl rfl rfl ?_)))))))))))
        refine pF rfl rfl rfl rfl (on ?_)
        cases hr108
        exact cu ⟨rfl, rfl, rfl, rfl, rfl, tv⟩
      ·have hr109 := if_n hb101 hx99
       refine gf hb101 rfl (gf hb101 rfl (gf hb101 rfl (gf hb101 rfl (gf hb101 rfl (pf hb101 rfl rfl (m1 rfl (gF rfl rfl rfl rfl (gF rfl rfl rfl rfl (gF rfl rfl rfl rfl (gF rfl rfl rfl rfl (gF rfl rfl rfl rfl ?_)))))))))))
       refine pF rfl rfl rfl rfl (m1 rfl (gF rfl rfl rfl rfl (gF rfl rfl rfl rfl (gF rfl rfl rfl rfl (gF rfl rfl rfl rfl (gF rfl rfl rfl rfl (pF rfl rfl rfl rfl (on ?_))))))))
       cases hr109
       exact cu ⟨rfl, rfl, rfl, rfl, rfl, tv⟩
     ·rintro a w ⟨hS, hA⟩
      refine TG.ap ?_ hS hA
      refine cb rfl (fun hc113 => ?_) (fun hc113 => ?_)
      ·have hr114 := if_p hc113 hr100
       refine sq (rg (a1 rfl (on (rt_ ?_))))
       cases hr114
       obtain rfl := Fin.out hz47
       cases hr43
       intro a w hS hA
       refine ret1 hA rfl rfl ?_
       exact ⟨rfl, hS.ext⟩
      ·have hr115 := if_f hc113 hr100
       refine sk (rg (m1 rfl (adI rfl rfl rfl (by omega) (a1 rfl (on ?_)))))
       cases hr115
       intro a w hS hA
       exact ⟨_, hz47, hS.selH [1, 2, 3] rfl, hA.cut ⟨rfl, rfl, rfl, rfl, tv⟩⟩
    ·have hr116 := if_n hc52 hr46
     refine xt rfl ?_
     cases hr116
     obtain rfl := Fin.out hz47
     intro a w hS hA
     exact ⟨_, rfl, hS, hA.cut tv⟩
  ·rintro a w ⟨t44, rfl, hS, hA⟩
   refine TG.ap ?_ hS hA
   refine sq (rg (a1 rfl (on (rt_ ?_))))
   cases hr43
   intro a w hS hA
   refine ret1 hA rfl rfl ?_
   exact ⟨rfl, hS.ext⟩

theorem w24 {M : Prop} {W : World} {H : Hp} (hH : H.le (hp W)) {ad_swaps : Option Addr} {cap_swaps : Nat} {swaps : List Swap} (h_swaps : Sl (Flat encSwap) 3 H ad_swaps cap_swaps swaps) {ad_a_1 : Option Addr} {cap_a_1 : Nat} {a_1 : List Mark} (h_a_1 : Sl (Flat encMark) 2 H ad_a_1 cap_a_1 a_1) {ad_b_2 : Option Addr} {cap_b_2 : Nat} {b_2 : List Mark} (h_b_2 : Sl (Flat encMark) 2 H ad_b_2 cap_b_2 b_2) {r : Int} (hr : m24 swaps a_1 b_2 = some r) : Calls Tryz.prog 24 [.slice ad_swaps swaps.length cap_swaps, .slice ad_a_1 a_1.length cap_a_1, .slice ad_b_2 b_2.length cap_b_2].toArray W (RetS M W (.int .i64 r)) := by
 have := h_swaps.len
 have := h_a_1.len
 have := h_b_2.len
 unfold m24 at hr
 refine enterG (M := M) Tryz.func24 rfl Tryz.ntmps24 rfl hH ?_
 refine sq (rg (a1 rfl (on (sq (rg (m1 rfl (lnL U44 rfl rfl ?_)))))))
 obtain ⟨hk1, hr2⟩ := chk_some hr
 refine adI rfl rfl rfl hk1 ?_
 obtain ⟨hk3, hr4⟩ := chk_some hr2
 have : (List.replicate (((a_1.length : Int) + 1).toNat) (Value.slice none 0 0)).length = ((a_1.length : Int) + 1).toNat := List.length_replicate
 refine mkL 1 encV (Value.slice none 0 0) T4.E124 rfl rfl rfl rfl rfl (by omega) (by omega) hk3 fun b5 => (TG.gopen (σ := [(1, Own.list (some ⟨b5, 0, none⟩) (((a_1.length : Int) + 1).toNat) 86 1 encV (List.replicate (((a_1.length : Int) + 1).toNat) (Value.slice none 0 0)))]) 3 1 (encI .i64) 1000 (((a_1.length : Int) + 1).toNat) ?_)
 have hG6 := Grid.nil Int (((a_1.length : Int) + 1).toNat)
 have hln7 : (List.replicate (((a_1.length : Int) + 1).toNat) (Value.slice none 0 0)).length = (List.replicate (((a_1.length : Int) + 1).toNat) (Value.slice none 0 0)).length := rfl
 refine a1 rfl (on (sq (sq (rg (a1 rfl (on ?_))))))
 obtain ⟨e474, hl475, hr476⟩ := bd_some hr4
 refine jn (fun a w => ∃ (hd477 : List Value) (as478 : List Adr), St M W H [H] ([(1, Own.list (some ⟨b5, 0, none⟩) (((a_1.length : Int) + 1).toNat) 86 1 encV hd477)] ++ grp 3 1 (encI .i64) 1000 as478 e474) w ∧ Has [] 108 a [(1, .slice ad_a_1 a_1.length cap_a_1), (2, .slice ad_b_2 b_2.length cap_b_2), (7, .slice (some ⟨b5, 0, none⟩) ((List.replicate (((a_1.length : Int) + 1).toNat) (Value.slice none 0 0)).length) (((a_1.length : Int) + 1).toNat))] ∧ Grid hd477 as478 e474 ∧ hd477.length = (List.replicate (((a_1.length : Int) + 1).toNat) (Value.slice none 0 0)).length) ?_ ?_
 ·refine bk ?_
  refine lp hl475 (fun s481 a w => ∃ (hd482 : List Value) (as483 : List Adr), St M W H [H] ([(1, Own.list (some ⟨b5, 0, none⟩) (((a_1.length : Int) + 1).toNat) 86 1 encV hd482)] ++ grp 3 1 (encI .i64) 1000 as483 s481.2) w ∧ Has [] 108 a [(0, .slice ad_swaps swaps.length cap_swaps), (1, .slice ad_a_1 a_1.length cap_a_1), (2, .slice ad_b_2 b_2.length cap_b_2), (7, .slice (some ⟨b5, 0, none⟩) ((List.replicate (((a_1.length : Int) + 1).toNat) (Value.slice none 0 0)).length) (((a_1.length : Int) + 1).toNat)), (8, .int .i64 (s481.1 : Int))] ∧ Grid hd482 as483 s481.2 ∧ hd482.length = (List.replicate (((a_1.length : Int) + 1).toNat) (Value.slice none 0 0)).length) ?_ ?_
  ·intro a w hS hA
   exact ⟨(List.replicate (((a_1.length : Int) + 1).toNat) (Value.slice none 0 0)), (List.replicate (((a_1.length : Int) + 1).toNat) ((none, 0) : Adr)), hS, hA.cut ⟨rfl, rfl, rfl, rfl, rfl, tv⟩, hG6, hln7⟩
  ·rintro j s481 y488 hr486 hz487 a w ⟨hd482, as483, hS, hA, hG484, hln485⟩
   refine TG.ap ?_ hS hA
   unfold m24_1 at hr486
   refine sq (sq (rg (m1 rfl (m1 rfl (lnL U44 rfl rfl (leI rfl rfl rfl (on ?_)))))))
   refine ci rfl (fun hc492 => ?_) (fun hc492 => ?_)
   ·have hr493 := if_p hc492 hr486
    refine sk (sq (bk (sq (rg (m1 rfl (m1 rfl (m1 rfl (lnL U44 rfl rfl ?_))))))))
    obtain ⟨hk717, hr718⟩ := chk_some hr493
    refine adI rfl rfl rfl hk717 ?_
    obtain ⟨hk719, hr720⟩ := chk_some hr718
    have : (List.replicate (((b_2.length : Int) + 1).toNat) (0 : Int)).length = ((b_2.length : Int) + 1).toNat := List.length_replicate
    refine mkL 2 (encI .i64) (0 : Int) T4.E86 rfl rfl rfl rfl rfl (by omega) (by omega) hk719 fun b721 => ?_
    obtain ⟨x722, hx723, hr724⟩ := bd_some hr720
    obtain ⟨ad725, cap726, ha727, hh728⟩ := hG484.at hx723
    refine iaP U124 Z86 rfl rfl rfl rfl (Nat.lt_of_lt_of_eq (lt_of hh728) hln485) (stE 1 (Value.slice (some ⟨b721, 0, none⟩) (List.replicate (((b_2.length : Int) + 1).toNat) (0 : Int)).length (((b_2.length : Int) + 1).toNat)) (q := ⟨b5, 0, none⟩) (j := s481.1) (size := 1) (cs := [(Value.slice (some ⟨b721, 0, none⟩) (List.replicate (((b_2.length : Int) + 1).toNat) (0 : Int)).length (((b_2.length : Int) + 1).toNat))]) (off := 0) Z86 rfl rfl rfl (fun _ => rfl) hh728 rfl rfl rfl rfl rfl (TG.absorb [(2, Own.list (some ⟨b721, 0, none⟩) (((b_2.length : Int) + 1).toNat) 3 1 (encI .i64) (List.replicate (((b_2.length : Int) + 1).toNat) (0 : Int))), (1, Own.list (some ⟨b5, 0, none⟩) (((a_1.length : Int) + 1).toNat) 86 1 encV (hd482.set s481.1 (Value.slice (some ⟨b721, 0, none⟩) (List.replicate (((b_2.length : Int) + 1).toNat) (0 : Int)).length (((b_2.length : Int) + 1).toNat))))] (B := [(1, Own.list (some ⟨b5, 0, none⟩) (((a_1.length : Int) + 1).toNat) 86 1 encV (hd482.set s481.1 (Value.slice (some ⟨b721, 0, none⟩) (List.replicate (((b_2.length : Int) + 1).toNat) (0 : Int)).length (((b_2.length : Int) + 1).toNat))))]) 2 (b := 1000) (j := s481.1) rfl rfl ?_))
    have hG729 := hG484.new s481.1 (List.replicate (((b_2.length : Int) + 1).toNat) (0 : Int)) (some ⟨b721, 0, none⟩) (((b_2.length : Int) + 1).toNat)
    have hln730 : (hd482.set s481.1 (Value.slice (some ⟨b721, 0, none⟩) (List.replicate (((b_2.length : Int) + 1).toNat) (0 : Int)).length (((b_2.length : Int) + 1).toNat))).length = (List.replicate (((a_1.length : Int) + 1).toNat) (Value.slice none 0 0)).length := (lenS _ _ _).trans hln485
    refine on (sq (rg (a1 rfl (on ?_))))
    obtain ⟨e935, hl936, hr937⟩ := bd_some hr724
    refine jn (fun a w => ∃ (hd938 : List Value) (as939 : List Adr), St M W H [H] ([(1, Own.list (some ⟨b5, 0, none⟩) (((a_1.length : Int) + 1).toNat) 86 1 encV hd938)] ++ grp 3 1 (encI .i64) 1000 as939 e935) w ∧ Has [] 108 a [(0, .slice ad_swaps swaps.length cap_swaps), (1, .slice ad_a_1 a_1.length cap_a_1), (2, .slice ad_b_2 b_2.length cap_b_2), (7, .slice (some ⟨b5, 0, none⟩) ((List.replicate (((a_1.length : Int) + 1).toNat) (Value.slice none 0 0)).length) (((a_1.length : Int) + 1).toNat)), (8, .int .i64 (s481.1 : Int))] ∧ Grid hd938 as939 e935 ∧ hd938.length = (List.replicate (((a_1.length : Int) + 1).toNat) (Value.slice none 0 0)).length) ?_ ?_
    ·refine bk ?_
     refine lp hl936 (fun s942 a w => ∃ (hd943 : List Value) (as944 : List Adr), St M W H [H] ([(1, Own.list (some ⟨b5, 0, none⟩) (((a_1.length : Int) + 1).toNat) 86 1 encV hd943)] ++ grp 3 1 (encI .i64) 1000 as944 s942.2) w ∧ Has [] 108 a [(0, .slice ad_swaps swaps.length cap_swaps), (1, .slice ad_a_1 a_1.length cap_a_1), (2, .slice ad_b_2 b_2.length cap_b_2), (7, .slice (some ⟨b5, 0, none⟩) ((List.replicate (((a_1.length : Int) + 1).toNat) (Value.slice none 0 0)).length) (((a_1.length : Int) + 1).toNat)), (8, .int .i64 (s481.1 : Int)), (9, .int .i64 (s942.1 : Int))] ∧ Grid hd943 as944 s942.2 ∧ hd943.length = (List.replicate (((a_1.length : Int) + 1).toNat) (Value.slice none 0 0)).length) ?_ ?_
     ·intro a w hS hA
      exact ⟨(hd482.set s481.1 (Value.slice (some ⟨b721, 0, none⟩) (List.replicate (((b_2.length : Int) + 1).toNat) (0 : Int)).length (((b_2.length : Int) + 1).toNat))), (as483.set s481.1 ((some ⟨b721, 0, none⟩), (((b_2.length : Int) + 1).toNat))), hS, hA.cut ⟨rfl, rfl, rfl, rfl, rfl, rfl, tv⟩, hG729, hln730⟩
     ·rintro j s942 y949 hr947 hz948 a w ⟨hd943, as944, hS, hA, hG945, hln946⟩
      refine TG.ap ?_ hS hA
      unfold m24_2 at hr947
      refine sq (sq (rg (m1 rfl (m1 rfl (lnL U44 rfl rfl (leI rfl rfl rfl (on ?_)))))))
      refine ci rfl (fun hc953 => ?_) (fun hc953 => ?_)
      ·have hr954 := if_p hc953 hr947
       refine sk (sq ?_)
       obtain ⟨t1042, hx1043, hr1044⟩ := bd_some hr954
       refine jn (fun a w => ∃ (hd1045 : List Value) (as1046 : List Adr), St M W H [H] ([(1, Own.list (some ⟨b5, 0, none⟩) (((a_1.length : Int) + 1).toNat) 86 1 encV hd1045)] ++ grp 3 1 (encI .i64) 1000 as1046 t1042) w ∧ Has [] 108 a [(0, .slice ad_swaps swaps.length cap_swaps), (1, .slice ad_a_1 a_1.length cap_a_1), (2, .slice ad_b_2 b_2.length cap_b_2), (7, .slice (some ⟨b5, 0, none⟩) ((List.replicate (((a_1.length : Int) + 1).toNat) (Value.slice none 0 0)).length) (((a_1.length : Int) + 1).toNat)), (8, .int .i64 (s481.1 : Int)), (9, .int .i64 (s942.1 : Int))] ∧ Grid hd1045 as1046 t1042 ∧ hd1045.length = (List.replicate (((a_1.length : Int) + 1).toNat) (Value.slice none 0 0)).length) ?_ ?_
       ·refine bk (sq (sq ?_))
        obtain ⟨t1052, hx1053, hr1054⟩ := bd_some hx1043
        refine jn (fun a w => St M W H [H] ([(1, Own.list (some ⟨b5, 0, none⟩) (((a_1.length : Int) + 1).toNat) 86 1 encV hd943)] ++ grp 3 1 (encI .i64) 1000 as944 s942.2) w ∧ Has [] 108 a [(0, .slice ad_swaps swaps.length cap_swaps), (1, .slice ad_a_1 a_1.length cap_a_1), (2, .slice ad_b_2 b_2.length cap_b_2), (7, .slice (some ⟨b5, 0, none⟩) ((List.replicate (((a_1.length : Int) + 1).toNat) (Value.slice none 0 0)).length) (((a_1.length : Int) + 1).toNat)), (8, .int .i64 (s481.1 : Int)), (9, .int .i64 (s942.1 : Int)), (39, .bool t1052)]) ?_ ?_
        ·refine rg (m1 rfl (eqI rfl rfl rfl (m1 rfl ?_)))
         by_cases hb1055 : (s481.1 : Int) = 0
         ·have hr1056 := if_p hb1055 hx1053
          refine gf' hb1055 rfl (gf' hb1055 rfl (pt hb1055 rfl rfl (on ?_)))
          cases hr1056
          exact cu ⟨rfl, rfl, rfl, rfl, rfl, rfl, rfl, tv⟩
         ·have hr1057 := if_n hb1055 hx1053
          refine gt' hb1055 rfl (m1 rfl (gt' hb1055 rfl (eqI rfl rfl rfl (pf hb1055 rfl rfl (on ?_)))))
          cases hr1057
          exact cu ⟨rfl, rfl, rfl, rfl, rfl, rfl, rfl, tv⟩
        ·rintro a w ⟨hS, hA⟩
         refine TG.ap ?_ hS hA
         refine cb rfl (fun hc1075 => ?_) (fun hc1075 => ?_)
         ·have hr1076 := if_p hc1075 hr1054
          refine sq (rg (m1 rfl (m1 rfl ?_)))
          obtain ⟨x1077, hx1078, hr1079⟩ := bd_some hr1076
          obtain ⟨ad1080, cap1081, ha1082, hh1083⟩ := hG945.at hx1078
          refine iaP U124 Z86 rfl rfl rfl rfl (Nat.lt_of_lt_of_eq (lt_of hh1083) hln946) (ld G86 rfl rfl (sE 1 rfl (fun _ => rfl) hh1083) rfl (m1 rfl (m1 rfl (m1 rfl ?_))))
          obtain ⟨hk1084, hr1085⟩ := chk_some hr1079
          refine adI rfl rfl rfl hk1084 ?_
          obtain ⟨x1086, hx1087, hr1088⟩ := bd_some hr1085
          refine TG.addr (1000 + s481.1) (gk rfl (gget ha1082 hx1078)) (lt_of0 hx1087) fun b1089 h => ?_; subst h
          refine iaP U86 Z3 rfl rfl rfl rfl (lt_of hx1087) (stE (1000 + s481.1) ((s481.1 : Int) + (s942.1 : Int)) (q := ⟨b1089, 0, none⟩) (j := s942.1) (size := 1) (cs := [.int .i64 ((s481.1 : Int) + (s942.1 : Int))]) (off := 0) Z3 rfl rfl (gk rfl (gget ha1082 hx1078)) (fun _ => rfl) hx1087 rfl rfl rfl rfl rfl (TG.eq (zk rfl (gset ha1082)) ?_))
          have hG1090 := hG945.put hx1078 (lenS x1077 s942.1 ((s481.1 : Int) + (s942.1 : Int)))
          refine on (xt rfl ?_)
          cases hr1088
          intro a w hS hA
          exact ⟨hd943, as944, hS, hA.cut ⟨rfl, rfl, rfl, rfl, rfl, rfl, tv⟩, hG1090, hln946⟩
         ·have hr1091 := if_f hc1075 hr1054
          refine sk (sq (rg (m1 rfl (m1 rfl (sbI rfl rfl rfl (by omega) ?_)))))
          obtain ⟨hk1092, hr1093⟩ := chk_some hr1091
          obtain ⟨x1094, hx1095, hr1096⟩ := bd_some hr1093
          obtain ⟨ad1097, cap1098, ha1099, hh1100⟩ := hG945.at hx1095
          refine iaP U124 Z86 rfl rfl rfl (by omega) (Nat.lt_of_lt_of_eq (lt_of hh1100) hln946) (ld G86 rfl rfl (sE 1 rfl (fun _ => rfl) hh1100) rfl (m1 rfl (sbI rfl rfl rfl (by omega) ?_)))
          obtain ⟨hk1101, hr1102⟩ := chk_some hr1096
          obtain ⟨x1103, hx1104, hr1105⟩ := bd_some hr1102
          refine TG.addr (1000 + ((s481.1 : Int) - 1).toNat) (gk rfl (gget ha1099 hx1095)) (lt_of0 hx1104) fun b1106 h => ?_; subst h
          refine iaP U86 Z3 rfl rfl rfl (by omega) (lt_of hx1104) (ld G3 rfl rfl (sE (1000 + ((s481.1 : Int) - 1).toNat) (gk rfl (gget ha1099 hx1095)) (fun _ => rfl) hx1104) rfl ?_)
          obtain ⟨hk1107, hr1108⟩ := chk_some hr1105
          refine adI rfl rfl rfl hk1107 (a1 rfl (on (sq (sq ?_))))
          obtain ⟨x1109, hx1110, hr1111⟩ := bd_some hr1108
          obtain ⟨p1112, rfl⟩ := h_a_1.adr hx1110
          obtain ⟨cs1113, hcs1114, hq1115, hr1116⟩ := h_a_1.at hx1110
          obtain rfl := hr1116
          obtain ⟨x1117, hx1118, hr1119⟩ := bd_some hr1111
          obtain ⟨p1120, rfl⟩ := h_b_2.adr hx1118
          obtain ⟨cs1121, hcs1122, hq1123, hr1124⟩ := h_b_2.at hx1118
          obtain rfl := hr1124
          refine drG 11 mixed (by kernel_rfl) rfl (dt rfl (m1 rfl fin1) (dt rfl (m1 rfl fin1) (dt rfl (m1 rfl fin1) (dt rfl (sbI rfl rfl rfl (by omega) fin1) (dt rfl (iaP U44 Z113 rfl rfl rfl (by omega) (lt_of hx1110) fin1) (dt rfl (ldA G113 Z113 rfl rfl (sS 1 rfl hq1115) rfl fin1) (dt rfl (m1 rfl fin1) (dt rfl (m1 rfl fin1) (dt rfl (sbI rfl rfl rfl (by omega) fin1) (dt rfl (iaP U44 Z113 rfl rfl rfl (by omega) (lt_of hx1118) fin1) (dt rfl (ldA G113 Z113 rfl rfl (sS 1 rfl hq1123) rfl fin1) ?_)))))))))))
          refine DF.nil fun K1125 hF => ?_
          obtain ⟨r1126, hx1127, hr1128⟩ := bd_some hr1119
          refine clS C56 rfl rfl rfl rfl (fun w H hH le => w56 hH (h_swaps.mono (Flat.mono _) (le.at 1 rfl)) x1109 rfl x1117 rfl hx1127) (on ?_)
          obtain ⟨t1134, hx1135, hr1136⟩ := bd_some hr1128
          refine jn (fun a w => St M W H [K1125, H] ([(1, Own.list (some ⟨b5, 0, none⟩) (((a_1.length : Int) + 1).toNat) 86 1 encV hd943)] ++ grp 3 1 (encI .i64) 1000 as944 s942.2) w ∧ Has [] 108 a [(0, .slice ad_swaps swaps.length cap_swaps), (1, .slice (some p1112) a_1.length cap_a_1), (2, .slice (some p1120) b_2.length cap_b_2), (7, .slice (some ⟨b5, 0, none⟩) ((List.replicate (((a_1.length : Int) + 1).toNat) (Value.slice none 0 0)).length) (((a_1.length : Int) + 1).toNat)), (8, .int .i64 (s481.1 : Int)), (9, .int .i64 (s942.1 : Int)), (10, .int .i64 t1134)]) ?_ ?_
          ·refine cb rfl (fun hc1137 => ?_) (fun hc1137 => ?_)
           ·have hr1138 := if_p hc1137 hx1135
            refine rg (m1 rfl ?_)
            obtain ⟨hk1139, hr1140⟩ := chk_some hr1138
            refine sbI rfl rfl rfl hk1139 (a1 rfl (on ?_))
            cases hr1140
            exact cu ⟨rfl, rfl, rfl, rfl, rfl, rfl, rfl, tv⟩
           ·have hr1141 := if_f hc1137 hx1135
            refine sk ?_
            cases hr1141
            exact cu ⟨rfl, rfl, rfl, rfl, rfl, rfl, rfl, tv⟩
          ·rintro a w ⟨hS, hA⟩
           refine TG.ap ?_ hS hA
           obtain ⟨x1142, hx1143, hr1144⟩ := bd_some hr1136
           obtain ⟨ad1145, cap1146, ha1147, hh1148⟩ := hG945.at hx1143
           obtain ⟨x1149, hx1150, hr1151⟩ := bd_some hr1144
           obtain ⟨hk1152, hr1153⟩ := chk_some hr1151
           obtain ⟨x1154, hx1155, hr1156⟩ := bd_some hr1153
           refine TG.addr (1000 + s481.1) (gk rfl (gget ha1147 hx1143)) (lt_of0 hx1155) fun b1157 h => ?_; subst h
           obtain ⟨hk1158, hr1159⟩ := chk_some hr1156
           refine drG 25 mixed (by kernel_rfl) rfl (dt rfl (m1 rfl fin1) (dt rfl (m1 rfl fin1) (dt rfl (iaP U124 Z86 rfl rfl rfl rfl (Nat.lt_of_lt_of_eq (lt_of hh1148) hln946) fin1) (dt rfl (ld G86 rfl rfl (sE 1 rfl (fun _ => rfl) hh1148) rfl fin1) (dt rfl (m1 rfl fin1) (dt rfl (m1 rfl fin1) (dt rfl (m1 rfl fin1) (dt rfl (m1 rfl fin1) (dt rfl (sbI rfl rfl rfl (by omega) fin1) (dt rfl (iaP U124 Z86 rfl rfl rfl (by omega) (Nat.lt_of_lt_of_eq (lt_of hh1100) hln946) fin1) (dt rfl (ld G86 rfl rfl (sE 1 rfl (fun _ => rfl) hh1100) rfl fin1) ?_)))))))))))
           refine dt rfl (m1 rfl fin1) (dt rfl (iaP U86 Z3 rfl rfl rfl rfl (lt_of hx1150) fin1) (dt rfl (ld G3 rfl rfl (sE (1000 + ((s481.1 : Int) - 1).toNat) (gk rfl (gget ha1099 hx1095)) (fun _ => rfl) hx1150) rfl fin1) (dt rfl (adI rfl rfl rfl hk1152 fin1) (dt rfl (m1 rfl fin1) (dt rfl (m1 rfl fin1) (dt rfl (iaP U124 Z86 rfl rfl rfl rfl (Nat.lt_of_lt_of_eq (lt_of hh1148) hln946) fin1) (dt rfl (ld G86 rfl rfl (sE 1 rfl (fun _ => rfl) hh1148) rfl fin1) (dt rfl (m1 rfl fin1) (dt rfl (sbI rfl rfl rfl (by omega) fin1) (dt rfl (iaP U86 Z3 rfl rfl rfl (by omega) (lt_of hx1155) fin1) (dt rfl (ld G3 rfl rfl (sE (1000 + s481.1) (gk rfl (gget ha1147 hx1143)) (fun _ => rfl) hx1155) rfl fin1) ?_)))))))))))
           refine dt rfl (adI rfl rfl rfl hk1158 fin1) (dt rfl (mn3 rfl rfl rfl rfl fin1) (DF.nil fun K1160 hF => ?_))
           obtain ⟨x1161, hx1162, hr1163⟩ := bd_some hr1159
           refine iaP U86 Z3 rfl rfl rfl rfl (lt_of hx1162) (stE (1000 + s481.1) (min (min t1134 (x1149 + 1)) (x1154 + 1)) (q := ⟨b1157, 0, none⟩) (j := s942.1) (size := 1) (cs := [.int .i64 (min (min t1134 (x1149 + 1)) (x1154 + 1))]) (off := 0) Z3 rfl rfl (gk rfl (gget ha1147 hx1143)) (fun _ => rfl) hx1162 rfl rfl rfl rfl rfl (TG.eq (zk rfl (gset ha1147)) ?_))
           have hG1164 := hG945.put hx1143 (lenS x1142 s942.1 (min (min t1134 (x1149 + 1)) (x1154 + 1)))
           refine on ?_
           cases hr1163
           intro a w hS hA
           exact ⟨hd943, as944, hS.selH [2] rfl, hA.cut ⟨rfl, rfl, rfl, rfl, rfl, rfl, tv⟩, hG1164, hln946⟩
       ·rintro a w ⟨hd1045, as1046, hS, hA, hG1047, hln1048⟩
        refine TG.ap ?_ hS hA
        refine rg (m1 rfl ?_)
        obtain ⟨hk1165, hr1166⟩ := chk_some hr1044
        refine adI rfl rfl rfl hk1165 (a1 rfl (on ?_))
        cases hr1166
        intro a w hS hA
        exact ⟨_, hz948, hd1045, as1046, hS, hA.cut ⟨rfl, rfl, rfl, rfl, rfl, rfl, tv⟩, hG1047, hln1048⟩
      ·have hr1167 := if_n hc953 hr947
       refine xt rfl ?_
       cases hr1167
       obtain rfl := Fin.out hz948
       intro a w hS hA
       exact ⟨hd943, as944, hS, hA.cut ⟨rfl, rfl, rfl, rfl, rfl, tv⟩, hG945, hln946⟩
    ·rintro a w ⟨hd938, as939, hS, hA, hG940, hln941⟩
     refine TG.ap ?_ hS hA
     refine rg (m1 rfl ?_)
     obtain ⟨hk1168, hr1169⟩ := chk_some hr937
     refine adI rfl rfl rfl hk1168 (a1 rfl (on ?_))
     cases hr1169
     intro a w hS hA
     exact ⟨_, hz487, hd938, as939, hS, hA.cut ⟨rfl, rfl, rfl, rfl, rfl, tv⟩, hG940, hln941⟩
   ·have hr1170 := if_n hc492 hr486
    refine xt rfl ?_
    cases hr1170
    obtain rfl := Fin.out hz487
    intro a w hS hA
    exact ⟨hd482, as483, hS, hA.cut ⟨rfl, rfl, rfl, tv⟩, hG484, hln485⟩
 ·rintro a w ⟨hd477, as478, hS, hA, hG479, hln480⟩
  refine TG.ap ?_ hS hA
  refine sq (rg (m1 rfl (m1 rfl (lnL U44 rfl rfl ?_))))
  obtain ⟨x1171, hx1172, hr1173⟩ := bd_some hr476
  obtain ⟨ad1174, cap1175, ha1176, hh1177⟩ := hG479.at hx1172
  refine iaP U124 Z86 rfl rfl rfl rfl (Nat.lt_of_lt_of_eq (lt_of hh1177) hln480) (ld G86 rfl rfl (sE 1 rfl (fun _ => rfl) hh1177) rfl (m1 rfl (lnL U44 rfl rfl ?_)))
  obtain ⟨x1178, hx1179, hr1180⟩ := bd_some hr1173
  refine TG.addr (1000 + a_1.length) (gk rfl (gget ha1176 hx1172)) (lt_of0 hx1179) fun b1181 h => ?_; subst h
  refine iaP U86 Z3 rfl rfl rfl rfl (lt_of hx1179) (ld G3 rfl rfl (sE (1000 + a_1.length) (gk rfl (gget ha1176 hx1172)) (fun _ => rfl) hx1179) rfl (a1 rfl (on (rt_ ?_))))
  cases hr1180
  intro a w hS hA
  refine ret1 hA rfl rfl ?_
  exact ⟨rfl, hS.ext⟩

theorem w3 {M : Prop} {W : World} {H : Hp} (hH : H.le (hp W)) (hg : Gv M H) {cs_l_0 : List Value} (l_0 : Lexicon) (h_l_0 : (RLexicon) H cs_l_0 l_0) {ad_swaps : Option Addr} {cap_swaps : Nat} {swaps : List Swap} (h_swaps : Sl (Flat encSwap) 3 H ad_swaps cap_swaps swaps) {ad_a_2 : Option Addr} {cap_a_2 : Nat} {a_2 : List Bytes} (h_a_2 : Sl (Flat encS) 1 H ad_a_2 cap_a_2 a_2) {ad_b_3 : Option Addr} {cap_b_3 : Nat} {b_3 : List Bytes} (h_b_3 : Sl (Flat encS) 1 H ad_b_3 cap_b_3 b_3) {r : Bool} (hr : m3 l_0 swaps a_2 b_3 = some r) : Calls Tryz.prog 3 [.agg cs_l_0.toArray, .slice ad_swaps swaps.length cap_swaps, .slice ad_a_2 a_2.length cap_a_2, .slice ad_b_3 b_3.length cap_b_3].toArray W (RetS M W (.bool r)) := by
 have hh_l_0 := h_l_0
 obtain ⟨ad1, cap2, ad4, cap5, ad7, cap8, rfl, hl3, hl6, hl9⟩ := h_l_0
 have := hl3.len
 have := hl6.len
 have := hl9.len
 have := h_swaps.len
 have := h_a_2.len
 have := h_b_3.len
 unfold m3 at hr
 refine enterG (M := M) Tryz.func3 rfl Tryz.ntmps3 rfl hH ?_
 refine sq (rg (bI (cs := [.slice ad1 l_0.numbers.length cap2, .slice ad4 l_0.names.length cap5, .slice ad7 l_0.nots.length cap8]) rfl rfl rfl fun q10 K11 hK12 => (a1 rfl (on (sq (sq ?_))))))
 obtain ⟨t28, hx29, hr30⟩ := bd_some hr
 refine jn (fun a w => St M W H [K11, H] [] w ∧ Has [] 93 a [(1, .slice ad_swaps swaps.length cap_swaps), (2, .slice ad_a_2 a_2.length cap_a_2), (3, .slice ad_b_3 b_3.length cap_b_3), (4, .pointer (some q10)), (25, .bool t28)]) ?_ ?_
 ·refine rg (ldA G26 Z26 rfl rfl (sS 0 rfl hK12) rfl (m1 rfl ?_))
  obtain ⟨r31, hx32, hr33⟩ := bd_some hx29
  refine clS C15 rfl rfl rfl rfl (fun w H hH le => w15 hH l_0 (RLexicon.mono _ _ _ _ (le.at 1 rfl) hh_l_0) (h_swaps.mono (Flat.mono _) (le.at 1 rfl)) hx32) (nt rfl rfl (m1 rfl ?_))
  rcases Bool.eq_false_or_eq_true (r31) with hb34 | hb34
  ·have hr35 := if_p hb34 hr33
   refine gN rfl rfl (congrArg not (hb34)) (m1 rfl (gN rfl rfl (congrArg not (hb34)) ?_))
   obtain ⟨r36, hx37, hr38⟩ := bd_some hr35
   refine clS C16 rfl rfl rfl rfl (fun w H hH le => w16 hH (h_a_2.mono (Flat.mono _) (le.at 1 rfl)) 90 hx37) (gN rfl rfl (congrArg not (hb34)) (nt rfl rfl (pF rfl rfl (congrArg not (hb34)) rfl (m1 rfl ?_))))
   rcases Bool.eq_false_or_eq_true (r36) with hb39 | hb39
   ·have hr40 := if_p hb39 hr38
    refine gN rfl rfl (congrArg not (hb39)) (m1 rfl (gN rfl rfl (congrArg not (hb39)) ?_))
    obtain ⟨r41, hx42, hr43⟩ := bd_some hr40
    refine clS C16 rfl rfl rfl rfl (fun w H hH le => w16 hH (h_b_3.mono (Flat.mono _) (le.at 1 rfl)) 90 hx42) (gN rfl rfl (congrArg not (hb39)) (nt rfl rfl (pF rfl rfl (congrArg not (hb39)) rfl (on ?_))))
    cases hr43
    exact cu ⟨rfl, rfl, rfl, rfl, rfl, tv⟩
   ·have hr44 := if_f hb39 hr38
    refine gF rfl rfl (congrArg not (hb39)) rfl (gF rfl rfl (congrArg not (hb39)) rfl (gF rfl rfl (congrArg not (hb39)) rfl (pT rfl rfl (congrArg not (hb39)) rfl (on ?_))))
    cases hr44
    exact cu ⟨rfl, rfl, rfl, rfl, rfl, tv⟩
  ·have hr45 := if_f hb34 hr33
   refine gF rfl rfl (congrArg not (hb34)) rfl (gF rfl rfl (congrArg not (hb34)) rfl (gF rfl rfl (congrArg not (hb34)) rfl (pT rfl rfl (congrArg not (hb34)) rfl (m1 rfl (gF rfl rfl rfl rfl (gF rfl rfl rfl rfl (gF rfl rfl rfl rfl (pT rfl rfl rfl rfl (on ?_)))))))))
   cases hr45
   exact cu ⟨rfl, rfl, rfl, rfl, rfl, tv⟩
 ·rintro a w ⟨hS, hA⟩
  refine TG.ap ?_ hS hA
  refine cb rfl (fun hc52 => ?_) (fun hc52 => ?_)
  ·have hr53 := if_p hc52 hr30
   refine sq (rg ?_)
   obtain ⟨r54, hx55, hr56⟩ := bd_some hr53
   refine clS C17 rfl rfl rfl rfl (fun w H hH le => w17 hH (hg.mono (le.at 1 rfl))  hx55) (a1 rfl (on (rt_ ?_)))
   cases hr56
   intro a w hS hA
   refine ret1 hA rfl rfl ?_
   exact ⟨rfl, hS.ext⟩
  ·have hr57 := if_f hc52 hr30
   refine sk (sq (rg (ldA G26 Z26 rfl rfl (sS 0 rfl hK12) rfl ?_)))
   obtain ⟨r58, hx59, hr60⟩ := bd_some hr57
   refine clK C19 rfl rfl rfl rfl (fun w H hH le => w19 hH l_0 (RLexicon.mono _ _ _ _ (le.at 1 rfl) hh_l_0) hx59) ?_
   rintro v_ K61 ⟨cs62, rfl, hr63⟩
   have hr64 := hr63
   obtain ⟨ad65, cap66, ad68, cap69, ad71, cap72, rfl, hl67, hl70, hl73⟩ := hr63
   have := hl67.len
   have := hl70.len
   have := hl73.len
   refine m1 rfl ?_
   obtain ⟨r74, hx75, hr76⟩ := bd_some hr60
   refine clK C20 rfl rfl rfl rfl (fun w H hH le => w20 hH (h_swaps.mono (Flat.mono _) (le.at 2 rfl)) hx75) ?_
   rintro v_ K77 ⟨ad78, cap79, rfl, hl80⟩
   have := hl80.len
   refine m1 rfl ?_
   obtain ⟨r81, hx82, hr83⟩ := bd_some hr76
   refine clK C21 rfl rfl rfl rfl (fun w H hH le => w21 hH (h_a_2.mono (Flat.mono _) (le.at 3 rfl)) hx82) ?_
   rintro v_ K84 ⟨ad85, cap86, rfl, hl87⟩
   have := hl87.len
   refine m1 rfl ?_
   obtain ⟨r88, hx89, hr90⟩ := bd_some hr83
   refine clK C21 rfl rfl rfl rfl (fun w H hH le => w21 hH (h_b_3.mono (Flat.mono _) (le.at 4 rfl)) hx89) ?_
   rintro v_ K91 ⟨ad92, cap93, rfl, hl94⟩
   have := hl94.len
   obtain ⟨r95, hx96, hr97⟩ := bd_some hr90
   refine clS C18 rfl rfl rfl rfl (fun w H hH le => w18 hH (hg.mono (le.at 5 rfl)) r58 (RLexicon.mono _ _ _ _ (le.at 3 rfl) hr64) (hl80.mono (Flat.mono _) (le.at 2 rfl)) (hl87.mono (Flat.mono _) (le.at 1 rfl)) (hl94.mono (Flat.mono _) (le.at 0 rfl)) hx96) (m1 rfl (ex rfl rfl rfl (ex rfl rfl rfl (a1 rfl (a1 rfl (on (sq (rg (ldA G26 Z26 rfl rfl (sS 4 rfl hK12) rfl (m1 rfl ?_))))))))))
   obtain ⟨r98, hx99, hr100⟩ := bd_some hr97
   refine clS C22 rfl rfl rfl rfl (fun w H hH le => w22 hH l_0 (RLexicon.mono _ _ _ _ (le.at 5 rfl) hh_l_0) (h_swaps.mono (Flat.mono _) (le.at 5 rfl)) hx99) (a1 rfl (on (sq (sq (rg (m1 rfl (eqI rfl rfl rfl (on ?_))))))))
   obtain ⟨t107, hx108, hr109⟩ := bd_some hr100
   refine jn (fun a w => St M W H [K91, K84, K77, K61, K11, H] [] w ∧ Has [] 93 a [(1, .slice ad_swaps swaps.length cap_swaps), (2, .slice ad_a_2 a_2.length cap_a_2), (3, .slice ad_b_3 b_3.length cap_b_3), (4, .pointer (some q10)), (9, .int .i64 r95.1), (10, .int .i64 r95.2), (11, .int .i64 t107)]) ?_ ?_
   ·refine ci rfl (fun hc110 => ?_) (fun hc110 => ?_)
    ·have hr111 := if_p hc110 hx108
     refine rg (m1 rfl ?_)
     obtain ⟨r112, hx113, hr114⟩ := bd_some hr111
     refine clS C23 rfl rfl rfl rfl (fun w H hH le => w23 hH (h_a_2.mono (Flat.mono _) (le.at 5 rfl)) hx113) (a1 rfl (on ?_))
     cases hr114
     exact cu ⟨rfl, rfl, rfl, rfl, rfl, rfl, rfl, tv⟩
    ·have hr115 := if_n hc110 hx108
     refine sk ?_
     cases hr115
     exact cu ⟨rfl, rfl, rfl, rfl, rfl, rfl, rfl, tv⟩
   ·rintro a w ⟨hS, hA⟩
    refine TG.ap ?_ hS hA
    refine sq (sq (rg (m1 rfl (eqI rfl rfl rfl (on ?_)))))
    obtain ⟨t122, hx123, hr124⟩ := bd_some hr109
    refine jn (fun a w => St M W H [K91, K84, K77, K61, K11, H] [] w ∧ Has [] 93 a [(1, .slice ad_swaps swaps.length cap_swaps), (2, .slice ad_a_2 a_2.length cap_a_2), (3, .slice ad_b_3 b_3.length cap_b_3), (4, .pointer (some q10)), (9, .int .i64 r95.1), (10, .int .i64 r95.2), (11, .int .i64 t122)]) ?_ ?_
    ·refine ci rfl (fun hc125 => ?_) (fun hc125 => ?_)
     ·have hr126 := if_p hc125 hx123
      refine rg (m1 rfl ?_)
      obtain ⟨r127, hx128, hr129⟩ := bd_some hr126
      refine clS C23 rfl rfl rfl rfl (fun w H hH le => w23 hH (h_b_3.mono (Flat.mono _) (le.at 5 rfl)) hx128) (a1 rfl (on ?_))
      cases hr129
      exact cu ⟨rfl, rfl, rfl, rfl, rfl, rfl, rfl, tv⟩
     ·have hr130 := if_n hc125 hx123
      refine sk ?_
      cases hr130
      exact cu ⟨rfl, rfl, rfl, rfl, rfl, rfl, rfl, tv⟩
    ·rintro a w ⟨hS, hA⟩
     refine TG.ap ?_ hS hA
     refine sq (sq ?_)
     obtain ⟨t137, hx138, hr139⟩ := bd_some hr124
     refine jn (fun a w => St M W H [K91, K84, K77, K61, K11, H] [] w ∧ Has [] 93 a [(1, .slice ad_swaps swaps.length cap_swaps), (2, .slice ad_a_2 a_2.length cap_a_2), (3, .slice ad_b_3 b_3.length cap_b_3), (4, .pointer (some q10)), (9, .int .i64 r95.1), (10, .int .i64 r95.2), (11, .int .i64 t122), (63, .bool t137)]) ?_ ?_
     ·refine rg (ldA G26 Z26 rfl rfl (sS 4 rfl hK12) rfl (m1 rfl (clS C22 rfl rfl rfl rfl (fun w H hH le => w22 hH l_0 (RLexicon.mono _ _ _ _ (le.at 5 rfl) hh_l_0) (h_swaps.mono (Flat.mono _) (le.at 5 rfl)) hx99) (eqI rfl rfl rfl (m1 rfl ?_)))))
      by_cases hb140 : r98 = 0
      ·have hr141 := if_p hb140 hx138
       refine gt hb140 rfl (m1 rfl (gt hb140 rfl (lnL U24 rfl rfl (gt hb140 rfl (gtI rfl rfl rfl (gt hb140 rfl (m1 rfl ?_)))))))
       by_cases hb142 : 80 < (a_2.length : Int)
       ·have hr143 := if_p hb142 hr141
        refine gf' hb142 rfl (gf' hb142 rfl (gf' hb142 rfl (gt hb140 rfl (pt hb142 rfl rfl (pt hb140 rfl rfl (on ?_))))))
        cases hr143
        exact cu ⟨rfl, rfl, rfl, rfl, rfl, rfl, rfl, rfl, tv⟩
       ·have hr144 := if_n hb142 hr141
        refine gt' hb142 rfl (m1 rfl (gt' hb142 rfl (lnL U24 rfl rfl (gt' hb142 rfl (gtI rfl rfl rfl (gt hb140 rfl (pf hb142 rfl rfl (pt hb140 rfl rfl (on ?_)))))))))
        cases hr144
        exact cu ⟨rfl, rfl, rfl, rfl, rfl, rfl, rfl, rfl, tv⟩
      ·have hr145 := if_n hb140 hx138
       refine gf hb140 rfl (gf hb140 rfl (gf hb140 rfl (gf hb140 rfl (gU rfl rfl rfl (gU rfl rfl rfl (gU rfl rfl rfl (gf hb140 rfl (pf hb140 rfl rfl (on ?_)))))))))
       cases hr145
       exact cu ⟨rfl, rfl, rfl, rfl, rfl, rfl, rfl, rfl, tv⟩
     ·rintro a w ⟨hS, hA⟩
      refine TG.ap ?_ hS hA
      obtain ⟨t149, hx150, hr151⟩ := bd_some hr139
      refine jn (fun a w => St M W H [K91, K84, K77, K61, K11, H] [] w ∧ Has [] 93 a [(1, .slice ad_swaps swaps.length cap_swaps), (2, .slice ad_a_2 a_2.length cap_a_2), (3, .slice ad_b_3 b_3.length cap_b_3), (4, .pointer (some q10)), (9, .int .i64 r95.1), (10, .int .i64 r95.2), (11, .int .i64 t149)]) ?_ ?_
      ·refine cb rfl (fun hc152 => ?_) (fun hc152 => ?_)
       ·have hr153 := if_p hc152 hx150
        refine rg (a1 rfl (on ?_))
        cases hr153
        exact cu ⟨rfl, rfl, rfl, rfl, rfl, rfl, rfl, tv⟩
       ·have hr154 := if_f hc152 hx150
        refine sk ?_
        cases hr154
        exact cu ⟨rfl, rfl, rfl, rfl, rfl, rfl, rfl, tv⟩
      ·rintro a w ⟨hS, hA⟩
       refine TG.ap ?_ hS hA
       refine sq (sq (rg (m1 rfl (neI rfl rfl rfl (on ?_)))))
       refine ci rfl (fun hc168 => ?_) (fun hc168 => ?_)
       ·have hr169 := if_p hc168 hr151
        refine sq ?_
        obtain ⟨t179, hx180, hr181⟩ := bd_some hr169
        refine jn (fun a w => St M W H [K91, K84, K77, K61, K11, H] [] w ∧ Has [] 93 a [(8, .bool t179)]) ?_ ?_
        ·refine rg (m1 rfl (m1 rfl (eqI rfl rfl rfl (m1 rfl ?_))))
         by_cases hb182 : r95.2 = t149
         ·have hr183 := if_p hb182 hx180
          refine gt hb182 rfl (m1 rfl (gt hb182 rfl (eqI rfl rfl rfl (pt hb182 rfl rfl (m1 rfl ?_)))))
          by_cases hb184 : r95.1 = 0
          ·have hr185 := if_p hb184 hr183
           refine gt hb184 rfl ?_
           obtain ⟨r186, hx187, hr188⟩ := bd_some hr185
           refine clS C17 rfl rfl rfl rfl (fun w H hH le => w17 hH (hg.mono (le.at 5 rfl))  hx187) (pt hb184 rfl rfl (a1 rfl (on ?_)))
           cases hr188
           exact cu ⟨rfl, tv⟩
          ·have hr189 := if_n hb184 hr183
           refine gf hb184 rfl (pf hb184 rfl rfl (a1 rfl (on ?_)))
           cases hr189
           exact cu ⟨rfl, tv⟩
         ·have hr190 := if_n hb182 hx180
          refine gf hb182 rfl (gf hb182 rfl (pf hb182 rfl rfl (m1 rfl (gF rfl rfl rfl rfl (pF rfl rfl rfl rfl (a1 rfl (on ?_)))))))
          cases hr190
          exact cu ⟨rfl, tv⟩
        ·rintro a w ⟨hS, hA⟩
         refine TG.ap ?_ hS hA
         refine rt_ ?_
         cases hr181
         intro a w hS hA
         refine ret1 hA rfl rfl ?_
         exact ⟨rfl, hS.ext⟩
       ·have hr191 := if_n hc168 hr151
        refine sk (sq ?_)
        obtain ⟨t226, hx227, hr228⟩ := bd_some hr191
        refine jn (fun a w => St M W H [K91, K84, K77, K61, K11, H] [] w ∧ Has [] 93 a [(8, .bool t226)]) ?_ ?_
        ·by_cases hb229 : r95.2 = 0
         ·have hr230 := if_p hb229 hx227
          obtain ⟨r231, hx232, hr233⟩ := bd_some hr230
          obtain ⟨r241, hx242, hr243⟩ := bd_some hr233
          obtain ⟨r251, hx252, hr253⟩ := bd_some hr243
          refine drG 12 mixed (by kernel_rfl) rfl (dt rfl (m1 rfl fin1) (dt rfl (eqI rfl rfl rfl fin1) (dt rfl (m1 rfl fin1) (dt rfl (gt hb229 rfl (m1 rfl fin1)) (dt rfl (gt hb229 rfl (m1 rfl fin1)) (dt rfl (gt hb229 rfl (ldA G26 Z26 rfl rfl (sS 5 rfl hK12) rfl fin1)) (dt rfl (gt hb229 rfl (m1 rfl fin1)) ?_)))))))
          refine DF.und (α := Option Addr × Nat) (none, 0) (fun q => .slice q.1 r231.length q.2) (fun (q : Option Addr × Nat) K => Sl (Flat encMark) 2 K q.1 q.2 r231) (fun _ _ _ h x => x.mono (Flat.mono _) h) (by kernel_rfl) rfl (fun a w K hS hA hF => TG.pa hS hA (gt hb229 rfl (clK C25 rfl rfl rfl rfl (fun w H hH le => w25 hH l_0 (RLexicon.mono _ _ _ _ (le.at 6 rfl) hh_l_0) (h_a_2.mono (Flat.mono _) (le.at 6 rfl)) hx232) (by
            rintro v_ K234 ⟨ad235, cap236, rfl, hl237⟩
            exact finU (f := fun q => .slice q.1 r231.length q.2) (G := (fun (q : Option Addr × Nat) K => Sl (Flat encMark) 2 K q.1 q.2 r231)) (_, _) (fun _ _ _ h x => x.mono (Flat.mono _) h) hl237)))) ?_
          rintro ⟨ad239, cap240⟩
          refine dt rfl (gt hb229 rfl (ldA G26 Z26 rfl rfl (sS 5 rfl hK12) rfl fin1)) (dt rfl (gt hb229 rfl (m1 rfl fin1)) ?_)
          refine DF.und (α := Option Addr × Nat) (none, 0) (fun q => .slice q.1 r241.length q.2) (fun (q : Option Addr × Nat) K => Sl (Flat encMark) 2 K q.1 q.2 r241) (fun _ _ _ h x => x.mono (Flat.mono _) h) (by kernel_rfl) rfl (fun a w K hS hA hF => TG.pa hS hA (gt hb229 rfl (clK C25 rfl rfl rfl rfl (fun w H hH le => w25 hH l_0 (RLexicon.mono _ _ _ _ (le.at 6 rfl) hh_l_0) (h_b_3.mono (Flat.mono _) (le.at 6 rfl)) hx242) (by
            rintro v_ K244 ⟨ad245, cap246, rfl, hl247⟩
            exact finU (f := fun q => .slice q.1 r241.length q.2) (G := (fun (q : Option Addr × Nat) K => Sl (Flat encMark) 2 K q.1 q.2 r241)) (_, _) (fun _ _ _ h x => x.mono (Flat.mono _) h) hl247)))) ?_
          rintro ⟨ad249, cap250⟩
          refine DF.det rfl (fun a w K hS hA hF => TG.pa hS hA (gt hb229 rfl (clS C24 rfl rfl rfl rfl (fun w H hH le => w24 hH (h_swaps.mono (Flat.mono _) (le.at 6 rfl)) ((hF.2.1 rfl).mono (Flat.mono _) (le.at 0 rfl)) ((hF.1 rfl).mono (Flat.mono _) (le.at 0 rfl)) hx252) fin1))) (DF.nil fun K254 hF => ?_)
          obtain ⟨hu248, hu238, _⟩ := hF
          have := hu238.len
          have := hu248.len
          refine gt hb229 rfl (eqI rfl rfl rfl (pt hb229 rfl rfl (m1 rfl ?_)))
          by_cases hb255 : r95.1 = r251
          ·have hr256 := if_p hb255 hr253
           refine gt hb255 rfl ?_
           obtain ⟨r257, hx258, hr259⟩ := bd_some hr256
           refine clS C17 rfl rfl rfl rfl (fun w H hH le => w17 hH (hg.mono (le.at 6 rfl))  hx258) (pt hb255 rfl rfl (a1 rfl (on ?_)))
           cases hr259
           intro a w hS hA
           exact ⟨hS.selH [1, 2, 3, 4, 5, 6] rfl, hA.cut ⟨rfl, tv⟩⟩
          ·have hr260 := if_n hb255 hr253
           refine gf hb255 rfl (pf hb255 rfl rfl (a1 rfl (on ?_)))
           cases hr260
           intro a w hS hA
           exact ⟨hS.selH [1, 2, 3, 4, 5, 6] rfl, hA.cut ⟨rfl, tv⟩⟩
         ·have hr261 := if_n hb229 hx227
          refine drG 12 mixed (by kernel_rfl) rfl (dt rfl (m1 rfl fin1) (dt rfl (eqI rfl rfl rfl fin1) (dt rfl (m1 rfl fin1) (dt rfl (gf hb229 rfl fin1) (dt rfl (gf hb229 rfl fin1) (dt rfl (gf hb229 rfl fin1) (dt rfl (gf hb229 rfl fin1) (dt rfl (gf hb229 rfl fin1) (dt rfl (gf hb229 rfl fin1) (dt rfl (gf hb229 rfl fin1) (dt rfl (gf hb229 rfl fin1) ?_)))))))))))
          refine dt rfl (gf hb229 rfl fin1) (DF.nil fun K262 hF => (gf hb229 rfl (pf hb229 rfl rfl (m1 rfl (gF rfl rfl rfl rfl (pF rfl rfl rfl rfl (a1 rfl (on ?_))))))))
          cases hr261
          intro a w hS hA
          exact ⟨hS.selH [1, 2, 3, 4, 5, 6] rfl, hA.cut ⟨rfl, tv⟩⟩
        ·rintro a w ⟨hS, hA⟩
         refine TG.ap ?_ hS hA
         refine rt_ ?_
         cases hr228
         intro a w hS hA
         refine ret1 hA rfl rfl ?_
         exact ⟨rfl, hS.ext⟩

end T4
