/-
 Walks of functions of layer 4: each call comes to what the model says. Printed by a program of ours.
-/
import Derived.Test.YtelimceikglofaaGreatDoorWalkB
set_option linter.all false
set_option maxHeartbeats 4000000
namespace T4
open Go Go.Proofs Pk
theorem w42 {M : Prop} {W : World} {H : Hp} (hH : H.le (hp W)) (hg : Gv M H) {cs_l_0 : List Value} (l_0 : Lexicon) (h_l_0 : (RLexicon) H cs_l_0 l_0) {ad_swaps : Option Addr} {cap_swaps : Nat} {swaps : List Swap} (h_swaps : Sl (Flat encSwap) 3 H ad_swaps cap_swaps swaps) {cs_r_2 : List Value} (r_2 : Report) (h_r_2 : (RReport) H cs_r_2 r_2) {ad_requests : Option Addr} {cap_requests : Nat} {requests : List Request} (h_requests : Sl (RRequest) 5 H ad_requests cap_requests requests) {r : List Segment × Int} (hr : m42 l_0 swaps r_2 requests = some r) : Calls Tryz.prog 42 [.agg cs_l_0.toArray, .slice ad_swaps swaps.length cap_swaps, .agg cs_r_2.toArray, .slice ad_requests requests.length cap_requests].toArray W (RetK M H W (fun v K => ∃ (ad0 : Option Addr) (cap0 : Nat), v = .tuple [.slice ad0 r.1.length cap0, .int .i64 r.2].toArray ∧ Sl (RSegment) 3 K ad0 cap0 r.1)) := by
 have hh_l_0 := h_l_0
 obtain ⟨ad1, cap2, ad4, cap5, ad7, cap8, rfl, hl3, hl6, hl9⟩ := h_l_0
 have := hl3.len
 have := hl6.len
 have := hl9.len
 have := h_swaps.len
 have hh_r_2 := h_r_2
 obtain ⟨ad10, cap11, rfl, hl12⟩ := h_r_2
 have := hl12.len
 have := h_requests.len
 unfold m42 at hr
 refine enterG (M := M) Tryz.func42 rfl Tryz.ntmps42 rfl hH ?_
 refine sq (rg (bI (cs := [.slice ad1 l_0.numbers.length cap2, .slice ad4 l_0.names.length cap5, .slice ad7 l_0.nots.length cap8]) rfl rfl rfl fun q13 K14 hK15 => (bI (cs := [.slice ad10 r_2.words.length cap11, .int .i64 r_2.out, .int .i64 r_2.within]) rfl rfl rfl fun q16 K17 hK18 => (bI (cs := [.slice ad_requests requests.length cap_requests]) rfl rfl rfl fun q19 K20 hK21 => (a1 rfl (a1 rfl (on (sq (rg (ldA G36 Z36 rfl rfl (sS 2 rfl hK15) rfl (m1 rfl ?_)))))))))))
 refine ldA G56 Z56 rfl rfl (sS 1 rfl hK18) rfl (ld G64 rfl rfl (sS 0 rfl hK21) rfl ?_)
 obtain ⟨t1085, hx1086, hr1087⟩ := bd_some hr
 refine clI C59 Tryz.func59 rfl Tryz.ntmps59 rfl rfl rfl rfl (fun v w => (∃ (t1088 : Int), t1085 = (.inl t1088) ∧ v = .tuple [.pointer none, .int .i64 t1088].toArray ∧ St M W H [K20, K17, K14, H] [] w) ∨ (∃ (t1089 : List Int × List Request × List Said × (List (Bytes × Mark)) × List Swap × List Int), t1085 = (.inr t1089) ∧ ∃ (b1090 : Nat) (ad1091 : Option Addr) (cap1092 : Nat) (ad1093 : Option Addr) (cap1094 : Nat) (css1095 : List (List Value)) (K1096 : Hp) (ad1098 : Option Addr) (cap1099 : Nat) (K1100 : Hp) (mp1102 : Value) (K1103 : Hp) (ad1105 : Option Addr) (cap1106 : Nat) (K1107 : Hp) (ad1109 : Option Addr) (cap1110 : Nat), v = .tuple [.pointer (some (⟨b1090, 0, none⟩)), .int .i64 0].toArray ∧ St M W H [K1096, K1100, K1103, K1107, K20, K17, K14, H] [(8, Own.list ad1091 cap1092 3 1 (encI .i64) t1089.1), (7, Own.rows ad1093 cap1094 63 5 css1095 t1089.2.1), (2, cel b1090 133 [.slice ad1098 t1089.2.2.1.length cap1099, .int .i64 r_2.out, .int .i64 r_2.within, mp1102, .slice ad1105 t1089.2.2.2.2.1.length cap1106, .slice ad1093 t1089.2.1.length cap1094, .slice ad1091 t1089.1.length cap1092, .slice ad1109 t1089.2.2.2.2.2.length cap1110]), (1, Own.list ad1109 cap1110 31 1 (encI .i64) t1089.2.2.2.2.2)] w ∧ Rows (RRequest) 5 K1096 css1095 t1089.2.1 ∧ Sl (Flat encSaid) 2 K1100 ad1098 cap1099 t1089.2.2.1 ∧ Mp keS (fun x => Value.agg (encMark x).toArray) K1103 mp1102 t1089.2.2.2.1 ∧ Sl (Flat encSwap) 3 K1107 ad1105 cap1106 t1089.2.2.2.2.1)) ?_ ?_
 ·refine sq (rg (bI (cs := [.slice ad1 l_0.numbers.length cap2, .slice ad4 l_0.names.length cap5, .slice ad7 l_0.nots.length cap8]) rfl rfl rfl fun q1111 K1112 hK1113 => (bI (cs := [.slice ad10 r_2.words.length cap11, .int .i64 r_2.out, .int .i64 r_2.within]) rfl rfl rfl fun q1114 K1115 hK1116 => (bI (cs := [.slice ad_requests requests.length cap_requests]) rfl rfl rfl fun q1117 K1118 hK1119 => (a1 rfl (a1 rfl (on (sq (rg (ldA G36 Z36 rfl rfl (sS 2 rfl hK1113) rfl (m1 rfl ?_)))))))))))
  obtain ⟨r1120, hx1121, hr1122⟩ := bd_some hx1086
  refine clK C51 rfl rfl rfl rfl (fun w H hH le => w51 hH l_0 (RLexicon.mono _ _ _ _ (le.at 6 rfl) hh_l_0) (h_swaps.mono (Flat.mono _) (le.at 6 rfl)) hx1121) ?_
  rintro v_ K1123 ⟨cs1124, rfl, hr1125⟩
  have hr1126 := hr1125
  obtain ⟨mp1127, ad1129, cap1130, rfl, hm1128, hl1131⟩ := hr1125
  have := hl1131.len
  refine m1 rfl (ex rfl rfl rfl (ex rfl rfl rfl ?_))
  obtain ⟨b1132, rfl⟩ := Mp.isMap hm1128
  refine va (cs := [.map b1132, .slice ad1129 r1120.1.swaps.length cap1130]) Tryz.zeroValue117 Z117 rfl rfl rfl rfl rfl rfl rfl rfl fun q1133 K1134 hK1135 => (a1 rfl (on (sq (sq (rg (m1 rfl (neI rfl rfl rfl (on ?_))))))))
  refine ci rfl (fun hc1139 => ?_) (fun hc1139 => ?_)
  ·have hr1140 := if_p hc1139 hr1122
   refine sq (rg (m1 rfl (a1 rfl (a1 rfl (on (rt_ ?_))))))
   cases hr1140
   intro a w hS hA
   refine ret2 hA rfl rfl rfl ?_
   exact ⟨_, rfl, .inl ⟨_, rfl, rfl, hS.selH [5, 6, 7, 8] rfl⟩⟩
  ·have hr1141 := if_n hc1139 hr1122
   refine sk (sq (sq (rg (ldA G56 Z56 rfl rfl (sS 3 rfl hK1116) rfl ?_))))
   obtain ⟨r1142, hx1143, hr1144⟩ := bd_some hr1141
   refine clS C61 rfl rfl rfl rfl (fun w H hH le => w61 hH r_2 (RReport.mono _ _ _ _ (le.at 8 rfl) hh_r_2) hx1143) (a1 rfl (on (sq (rg (m1 rfl (neI rfl rfl rfl (on ?_)))))))
   refine ci rfl (fun hc1148 => ?_) (fun hc1148 => ?_)
   ·have hr1149 := if_p hc1148 hr1144
    refine sq (rg (m1 rfl (a1 rfl (a1 rfl (on (rt_ ?_))))))
    cases hr1149
    intro a w hS hA
    refine ret2 hA rfl rfl rfl ?_
    exact ⟨_, rfl, .inl ⟨_, rfl, rfl, hS.selH [5, 6, 7, 8] rfl⟩⟩
   ·have hr1150 := if_n hc1148 hr1144
    refine sk (sq (sq (rg (ld G64 rfl rfl (sS 2 rfl hK1119) rfl (lnL U64 rfl rfl (gtI rfl rfl rfl (on ?_)))))))
    refine ci rfl (fun hc1154 => ?_) (fun hc1154 => ?_)
    ·have hr1155 := if_p hc1154 hr1150
     refine sq (rg (a1 rfl (a1 rfl (on (rt_ ?_)))))
     cases hr1155
     intro a w hS hA
     refine ret2 hA rfl rfl rfl ?_
     exact ⟨_, rfl, .inl ⟨_, rfl, rfl, hS.selH [5, 6, 7, 8] rfl⟩⟩
    ·have hr1156 := if_n hc1154 hr1150
     refine sk (sq ?_)
     obtain ⟨hk1157, hr1158⟩ := chk_some hr1156
     have : (List.replicate requests.length (0 : Int)).length = requests.length := List.length_replicate
     refine drG2 5 4 mixed (by kernel_rfl) rfl rfl (DG.detA rfl rfl rfl (fun τ a w K hS hA hF => TG.pa hS hA (ldA G56 Z56 rfl rfl (sS 4 rfl hK1116) rfl fin1)) (DG.detA rfl rfl rfl (fun τ a w K hS hA hF => TG.pa hS hA (ldA G117 Z117 rfl rfl (sS 1 rfl hK1135) rfl fin1)) (DG.det (fun τ => τ = []) rfl rfl (.inr (by kernel_rfl)) (fun _ h => by cases h) rfl rfl (fun τ hτ a w K hS hA hF => by subst hτ <;> exact TG.pa hS hA (ld G64 rfl rfl (sS 3 rfl hK1119) rfl fin1)) (DG.det (fun τ => τ = []) rfl rfl (.inr (by kernel_rfl)) (fun _ h => by cases h) rfl rfl (fun τ hτ a w K hS hA hF => by subst hτ <;> exact TG.pa hS hA (lnL U64 rfl rfl fin1)) (DG.turn (α := Nat) 0 (fun b1159 => .slice (some ⟨b1159, 0, none⟩) ((List.replicate requests.length (0 : Int)).length) requests.length) (fun _ _ => True) (fun b1159 => [(1, Own.list (some ⟨b1159, 0, none⟩) requests.length 31 1 (encI .i64) (List.replicate requests.length (0 : Int)))]) rfl (fun _ _ _ _ h => h) (by kernel_rfl) rfl rfl (fun a w K hS hA hF => TG.pa hS hA (mkL 1 (encI .i64) (0 : Int) T4.E59 rfl rfl rfl rfl rfl rfl rfl hk1157 fun b1159 => finT (f := fun b1159 => .slice (some ⟨b1159, 0, none⟩) ((List.replicate requests.length (0 : Int)).length) requests.length) (G := fun _ _ => True) (σ1 := fun b1159 => [(1, Own.list (some ⟨b1159, 0, none⟩) requests.length 31 1 (encI .i64) (List.replicate requests.length (0 : Int)))]) b1159 tv)) fun b1159 => (DG.nil fun K1160 hF => ?_))))))
     obtain ⟨_, _⟩ := hF
     refine bu (cs := [.slice ad10 r_2.words.length cap11, .int .i64 r_2.out, .int .i64 r_2.within, .map b1132, .slice ad1129 r1120.1.swaps.length cap1130, .slice none 0 0, .slice none 0 0, .slice (some ⟨b1159, 0, none⟩) ((List.replicate requests.length (0 : Int)).length) requests.length]) T4.B133 rfl rfl rfl (bO 2 rfl rfl rfl fun b1161 => (a1 rfl (on (sq (rg (a1 rfl (on (sq (sq (rg (ld G64 rfl rfl (sS 3 rfl hK1119) rfl ?_)))))))))))
     refine lnL U64 rfl rfl (m1 rfl (on (TG.nilRow 4 3 1 (TG.as 4 (z := Own.list none 0 3 1 (encI .i64) ([] : List Int)) rfl rfl ?_))))
     obtain ⟨e1195, hl1196, hr1197⟩ := bd_some hr1158
     refine jn (fun a w => ∃ (ad1198 : Option Addr) (cap1199 : Nat), St M W H [K1160, K1134, K1123, K1118, K1115, K1112, K20, K17, K14, H] [(4, Own.list ad1198 cap1199 3 1 (encI .i64) e1195), (2, cel b1161 133 [.slice ad10 r_2.words.length cap11, .int .i64 r_2.out, .int .i64 r_2.within, .map b1132, .slice ad1129 r1120.1.swaps.length cap1130, .slice none 0 0, .slice none 0 0, .slice (some ⟨b1159, 0, none⟩) ((List.replicate requests.length (0 : Int)).length) requests.length]), (1, Own.list (some ⟨b1159, 0, none⟩) requests.length 31 1 (encI .i64) (List.replicate requests.length (0 : Int)))] w ∧ Has [] 106 a [(7, .pointer (some q1117)), (13, .pointer (some (⟨b1161, 0, none⟩))), (14, .slice ad1198 e1195.length cap1199)]) ?_ ?_
     ·refine bk ?_
      refine lp hl1196 (fun s1200 a w => ∃ (ad1201 : Option Addr) (cap1202 : Nat), St M W H [K1160, K1134, K1123, K1118, K1115, K1112, K20, K17, K14, H] [(4, Own.list ad1201 cap1202 3 1 (encI .i64) s1200.2), (2, cel b1161 133 [.slice ad10 r_2.words.length cap11, .int .i64 r_2.out, .int .i64 r_2.within, .map b1132, .slice ad1129 r1120.1.swaps.length cap1130, .slice none 0 0, .slice none 0 0, .slice (some ⟨b1159, 0, none⟩) ((List.replicate requests.length (0 : Int)).length) requests.length]), (1, Own.list (some ⟨b1159, 0, none⟩) requests.length 31 1 (encI .i64) (List.replicate requests.length (0 : Int)))] w ∧ Has [] 106 a [(7, .pointer (some q1117)), (13, .pointer (some (⟨b1161, 0, none⟩))), (14, .slice ad1201 s1200.2.length cap1202), (43, .int .i64 (requests.length : Int)), (44, .int .i64 (s1200.1 : Int))]) ?_ ?_
      ·intro a w hS hA
       exact ⟨none, 0, hS, hA.cut ⟨rfl, rfl, rfl, rfl, rfl, tv⟩⟩
      ·rintro j s1200 y1205 hr1203 hz1204 a w ⟨ad1201, cap1202, hS, hA⟩
       refine TG.ap ?_ hS hA
       unfold m42_1 at hr1203
       refine sq (rg (ltI rfl rfl rfl (on (sq ?_))))
       refine ci rfl (fun hc1209 => ?_) (fun hc1209 => ?_)
       ·have hr1210 := if_p hc1209 hr1203
        refine sk (sq (bk (sq (rg (m1 rfl (a1 rfl (on (rg (m1 rfl (m1 rfl ?_))))))))))
        obtain ⟨hk1216, hr1217⟩ := chk_some hr1210
        have := lenA s1200.2 [(s1200.1 : Int)]
        refine ap1 4 (encI .i64) (l := s1200.2) (s1200.1 : Int) T4.E86 rfl rfl rfl rfl rfl rfl rfl rfl rfl rfl rfl rfl hk1216 fun ad1218 cap1219 u1220 => (a1 rfl (on (rg (adI rfl rfl rfl (by omega) (m1 rfl (on ?_))))))
        cases hr1217
        intro a w hS hA
        exact ⟨_, hz1204, ad1218, cap1219, hS, hA.cut ⟨rfl, rfl, rfl, rfl, rfl, tv⟩⟩
       ·have hr1221 := if_n hc1209 hr1203
        refine xt rfl ?_
        cases hr1221
        obtain rfl := Fin.out hz1204
        intro a w hS hA
        exact ⟨ad1201, cap1202, hS, hA.cut ⟨rfl, rfl, rfl, tv⟩⟩
     ·rintro a w ⟨ad1198, cap1199, hS, hA⟩
      refine TG.ap ?_ hS hA
      refine sq (rg (m1 rfl (fn rfl rfl rfl ?_)))
      obtain ⟨t1889, hx1890, hr1891⟩ := bd_some hr1197
      refine clI C87 Tryz.func87 rfl Tryz.ntmps87 rfl rfl rfl rfl (fun v w => (v = .tuple #[] ∧ St M W H [K1160, K1134, K1123, K1118, K1115, K1112, K20, K17, K14, H] [(4, Own.list ad1198 cap1199 3 1 (encI .i64) t1889), (2, cel b1161 133 [.slice ad10 r_2.words.length cap11, .int .i64 r_2.out, .int .i64 r_2.within, .map b1132, .slice ad1129 r1120.1.swaps.length cap1130, .slice none 0 0, .slice none 0 0, .slice (some ⟨b1159, 0, none⟩) ((List.replicate requests.length (0 : Int)).length) requests.length]), (1, Own.list (some ⟨b1159, 0, none⟩) requests.length 31 1 (encI .i64) (List.replicate requests.length (0 : Int)))] w ∧ t1889.length = e1195.length)) ?_ ?_
      ·refine rg (m1 rfl (m1 rfl (TG.len 4 rfl fun _ => (lnL U86 rfl rfl (m1 rfl ?_)))))
       obtain ⟨t2556, hx2557, hr2558⟩ := bd_some hx1890
       refine clI C112 Tryz.func112 rfl Tryz.ntmps112 rfl rfl rfl rfl (fun v w => (v = .tuple #[] ∧ St M W H [K1160, K1134, K1123, K1118, K1115, K1112, K20, K17, K14, H] [(4, Own.list ad1198 cap1199 3 1 (encI .i64) t2556), (2, cel b1161 133 [.slice ad10 r_2.words.length cap11, .int .i64 r_2.out, .int .i64 r_2.within, .map b1132, .slice ad1129 r1120.1.swaps.length cap1130, .slice none 0 0, .slice none 0 0, .slice (some ⟨b1159, 0, none⟩) ((List.replicate requests.length (0 : Int)).length) requests.length]), (1, Own.list (some ⟨b1159, 0, none⟩) requests.length 31 1 (encI .i64) (List.replicate requests.length (0 : Int)))] w ∧ t2556.length = e1195.length)) ?_ ?_
       ·refine sq (rg (a1 rfl (on (sq (rg (m1 rfl (a1 rfl (a1 rfl (on (sq ?_))))))))))
        obtain ⟨e2994, hl2995, hr2996⟩ := bd_some hx2557
        refine jn (fun a w => St M W H [K1160, K1134, K1123, K1118, K1115, K1112, K20, K17, K14, H] [(4, Own.list ad1198 cap1199 3 1 (encI .i64) e2994.2), (2, cel b1161 133 [.slice ad10 r_2.words.length cap11, .int .i64 r_2.out, .int .i64 r_2.within, .map b1132, .slice ad1129 r1120.1.swaps.length cap1130, .slice none 0 0, .slice none 0 0, .slice (some ⟨b1159, 0, none⟩) ((List.replicate requests.length (0 : Int)).length) requests.length]), (1, Own.list (some ⟨b1159, 0, none⟩) requests.length 31 1 (encI .i64) (List.replicate requests.length (0 : Int)))] w ∧ Has [] 63 a [(0, .slice ad1198 e1195.length cap1199), (1, .int .i64 (e1195.length : Int)), (2, .func (.func 88) [].toArray [.pointer (some q1117)].toArray), (6, .int .i64 20), (7, .int .i64 (e2994.1 : Int))] ∧ e2994.2.length = e1195.length) ?_ ?_
        ·refine bk ?_
         refine lp hl2995 (fun s2998 a w => St M W H [K1160, K1134, K1123, K1118, K1115, K1112, K20, K17, K14, H] [(4, Own.list ad1198 cap1199 3 1 (encI .i64) s2998.2.2), (2, cel b1161 133 [.slice ad10 r_2.words.length cap11, .int .i64 r_2.out, .int .i64 r_2.within, .map b1132, .slice ad1129 r1120.1.swaps.length cap1130, .slice none 0 0, .slice none 0 0, .slice (some ⟨b1159, 0, none⟩) ((List.replicate requests.length (0 : Int)).length) requests.length]), (1, Own.list (some ⟨b1159, 0, none⟩) requests.length 31 1 (encI .i64) (List.replicate requests.length (0 : Int)))] w ∧ Has [] 63 a [(0, .slice ad1198 e1195.length cap1199), (1, .int .i64 (e1195.length : Int)), (2, .func (.func 88) [].toArray [.pointer (some q1117)].toArray), (6, .int .i64 20), (7, .int .i64 (s2998.1 : Int)), (8, .int .i64 (s2998.2.1 : Int))] ∧ s2998.2.2.length = e1195.length) ?_ ?_
         ·intro a w hS hA
          exact ⟨hS, hA.cut ⟨rfl, rfl, rfl, rfl, rfl, rfl, tv⟩, rfl⟩
         ·rintro j s2998 y3002 hr3000 hz3001 a w ⟨hS, hA, hln2999⟩
          refine TG.ap ?_ hS hA
          unfold m42_2 at hr3000
          refine sq (sq (rg (m1 rfl (m1 rfl (leI rfl rfl rfl (on ?_))))))
          refine ci rfl (fun hc3006 => ?_) (fun hc3006 => ?_)
          ·have hr3007 := if_p hc3006 hr3000
           refine sk (bk (sq (rg (m1 rfl (m1 rfl (m1 rfl (m1 rfl ?_)))))))
           obtain ⟨t3426, hx3427, hr3428⟩ := bd_some hr3007
           refine clI C122 Tryz.func122 rfl Tryz.ntmps122 rfl rfl rfl rfl (fun v w => (v = .tuple #[] ∧ St M W H [K1160, K1134, K1123, K1118, K1115, K1112, K20, K17, K14, H] [(4, Own.list ad1198 cap1199 3 1 (encI .i64) t3426), (2, cel b1161 133 [.slice ad10 r_2.words.length cap11, .int .i64 r_2.out, .int .i64 r_2.within, .map b1132, .slice ad1129 r1120.1.swaps.length cap1130, .slice none 0 0, .slice none 0 0, .slice (some ⟨b1159, 0, none⟩) ((List.replicate requests.length (0 : Int)).length) requests.length]), (1, Own.list (some ⟨b1159, 0, none⟩) requests.length 31 1 (encI .i64) (List.replicate requests.length (0 : Int)))] w ∧ t3426.length = e1195.length)) ?_ ?_
           ·refine sq (rg (m1 rfl ?_))
            obtain ⟨hk3430, hr3431⟩ := chk_some hx3427
            refine adI rfl rfl rfl hk3430 (a1 rfl (on ?_))
            obtain ⟨e3634, hl3635, hr3636⟩ := bd_some hr3431
            refine jn (fun a w => St M W H [K1160, K1134, K1123, K1118, K1115, K1112, K20, K17, K14, H] [(4, Own.list ad1198 cap1199 3 1 (encI .i64) e3634), (2, cel b1161 133 [.slice ad10 r_2.words.length cap11, .int .i64 r_2.out, .int .i64 r_2.within, .map b1132, .slice ad1129 r1120.1.swaps.length cap1130, .slice none 0 0, .slice none 0 0, .slice (some ⟨b1159, 0, none⟩) ((List.replicate requests.length (0 : Int)).length) requests.length]), (1, Own.list (some ⟨b1159, 0, none⟩) requests.length 31 1 (encI .i64) (List.replicate requests.length (0 : Int)))] w ∧ Has [] 53 a [] ∧ e3634.length = e1195.length) ?_ ?_
            ·refine bk ?_
             refine lp hl3635 (fun s3638 a w => St M W H [K1160, K1134, K1123, K1118, K1115, K1112, K20, K17, K14, H] [(4, Own.list ad1198 cap1199 3 1 (encI .i64) s3638.2), (2, cel b1161 133 [.slice ad10 r_2.words.length cap11, .int .i64 r_2.out, .int .i64 r_2.within, .map b1132, .slice ad1129 r1120.1.swaps.length cap1130, .slice none 0 0, .slice none 0 0, .slice (some ⟨b1159, 0, none⟩) ((List.replicate requests.length (0 : Int)).length) requests.length]), (1, Own.list (some ⟨b1159, 0, none⟩) requests.length 31 1 (encI .i64) (List.replicate requests.length (0 : Int)))] w ∧ Has [] 53 a [(0, .slice ad1198 e1195.length cap1199), (1, .int .i64 (s2998.1 : Int)), (2, .int .i64 (s2998.2.1 : Int)), (3, .func (.func 88) [].toArray [.pointer (some q1117)].toArray), (8, .int .i64 (s3638.1 : Int))] ∧ s3638.2.length = e1195.length) ?_ ?_
             ·intro a w hS hA
              exact ⟨hS, hA.cut ⟨rfl, rfl, rfl, rfl, rfl, tv⟩, hln2999⟩
             ·rintro j s3638 y3642 hr3640 hz3641 a w ⟨hS, hA, hln3639⟩
              refine TG.ap ?_ hS hA
              unfold m42_3 at hr3640
              refine sq (sq (rg (m1 rfl (m1 rfl (ltI rfl rfl rfl (on ?_))))))
              refine ci rfl (fun hc3646 => ?_) (fun hc3646 => ?_)
              ·have hr3647 := if_p hc3646 hr3640
               refine sk (sq (bk (sq (rg (m1 rfl (a1 rfl (on ?_)))))))
               obtain ⟨e3834, hl3835, hr3836⟩ := bd_some hr3647
               refine jn (fun a w => St M W H [K1160, K1134, K1123, K1118, K1115, K1112, K20, K17, K14, H] [(4, Own.list ad1198 cap1199 3 1 (encI .i64) e3834), (2, cel b1161 133 [.slice ad10 r_2.words.length cap11, .int .i64 r_2.out, .int .i64 r_2.within, .map b1132, .slice ad1129 r1120.1.swaps.length cap1130, .slice none 0 0, .slice none 0 0, .slice (some ⟨b1159, 0, none⟩) ((List.replicate requests.length (0 : Int)).length) requests.length]), (1, Own.list (some ⟨b1159, 0, none⟩) requests.length 31 1 (encI .i64) (List.replicate requests.length (0 : Int)))] w ∧ Has [] 53 a [(0, .slice ad1198 e1195.length cap1199), (1, .int .i64 (s2998.1 : Int)), (2, .int .i64 (s2998.2.1 : Int)), (3, .func (.func 88) [].toArray [.pointer (some q1117)].toArray), (8, .int .i64 (s3638.1 : Int))] ∧ e3834.length = e1195.length) ?_ ?_
               ·refine bk ?_
                refine lp hl3835 (fun s3838 a w => St M W H [K1160, K1134, K1123, K1118, K1115, K1112, K20, K17, K14, H] [(4, Own.list ad1198 cap1199 3 1 (encI .i64) s3838.2), (2, cel b1161 133 [.slice ad10 r_2.words.length cap11, .int .i64 r_2.out, .int .i64 r_2.within, .map b1132, .slice ad1129 r1120.1.swaps.length cap1130, .slice none 0 0, .slice none 0 0, .slice (some ⟨b1159, 0, none⟩) ((List.replicate requests.length (0 : Int)).length) requests.length]), (1, Own.list (some ⟨b1159, 0, none⟩) requests.length 31 1 (encI .i64) (List.replicate requests.length (0 : Int)))] w ∧ Has [] 53 a [(0, .slice ad1198 e1195.length cap1199), (1, .int .i64 (s2998.1 : Int)), (2, .int .i64 (s2998.2.1 : Int)), (3, .func (.func 88) [].toArray [.pointer (some q1117)].toArray), (8, .int .i64 (s3638.1 : Int)), (9, .int .i64 s3838.1)] ∧ s3838.2.length = e1195.length) ?_ ?_
                ·intro a w hS hA
                 exact ⟨hS, hA.cut ⟨rfl, rfl, rfl, rfl, rfl, rfl, tv⟩, hln3639⟩
                ·rintro j s3838 y3842 hr3840 hz3841 a w ⟨hS, hA, hln3839⟩
                 refine TG.ap ?_ hS hA
                 unfold m42_4 at hr3840
                 refine sq (sq ?_)
                 obtain ⟨t3864, hx3865, hr3866⟩ := bd_some hr3840
                 refine jn (fun a w => St M W H [K1160, K1134, K1123, K1118, K1115, K1112, K20, K17, K14, H] [(4, Own.list ad1198 cap1199 3 1 (encI .i64) s3838.2), (2, cel b1161 133 [.slice ad10 r_2.words.length cap11, .int .i64 r_2.out, .int .i64 r_2.within, .map b1132, .slice ad1129 r1120.1.swaps.length cap1130, .slice none 0 0, .slice none 0 0, .slice (some ⟨b1159, 0, none⟩) ((List.replicate requests.length (0 : Int)).length) requests.length]), (1, Own.list (some ⟨b1159, 0, none⟩) requests.length 31 1 (encI .i64) (List.replicate requests.length (0 : Int)))] w ∧ Has [] 53 a [(0, .slice ad1198 e1195.length cap1199), (1, .int .i64 (s2998.1 : Int)), (2, .int .i64 (s2998.2.1 : Int)), (3, .func (.func 88) [].toArray [.pointer (some q1117)].toArray), (8, .int .i64 (s3638.1 : Int)), (9, .int .i64 s3838.1), (34, .bool t3864)]) ?_ ?_
                 ·by_cases hb3867 : (s2998.1 : Int) < s3838.1
                  ·have hr3868 := if_p hb3867 hx3865
                   obtain ⟨hk3869, hr3870⟩ := chk_some hr3868
                   obtain ⟨x3871, hx3872, hr3873⟩ := bd_some hr3870
                   refine TG.addr 4 rfl (lt_of0 hx3872) fun b3874 h => ?_; subst h
                   obtain ⟨hk3875, hr3876⟩ := chk_some hr3873
                   obtain ⟨hk3877, hr3878⟩ := chk_some hr3876
                   obtain ⟨x3879, hx3880, hr3881⟩ := bd_some hr3878
                   refine drG 14 mixed (by kernel_rfl) rfl (dt rfl (m1 rfl fin1) (dt rfl (m1 rfl fin1) (dt rfl (gtI rfl rfl rfl fin1) (dt rfl (m1 rfl fin1) (dt rfl (gt hb3867 rfl (m1 rfl fin1)) (dt rfl (gt hb3867 rfl (m1 rfl fin1)) (dt rfl (gt hb3867 rfl (m1 rfl fin1)) (dt rfl (gt hb3867 rfl (iaP U86 Z3 rfl rfl rfl (by omega) (Nat.lt_of_lt_of_eq (lt_of hx3872) hln3839) fin1)) (dt rfl (gt hb3867 rfl (ld G3 rfl rfl (sE 4 rfl (fun _ => rfl) hx3872) rfl fin1)) (dt rfl (gt hb3867 rfl (m1 rfl fin1)) (dt rfl (gt hb3867 rfl (m1 rfl fin1)) ?_)))))))))))
                   refine dt rfl (gt hb3867 rfl (sbI rfl rfl rfl hk3875 fin1)) (dt rfl (gt hb3867 rfl (iaP U86 Z3 rfl rfl rfl (by omega) (Nat.lt_of_lt_of_eq (lt_of hx3880) hln3839) fin1)) (dt rfl (gt hb3867 rfl (ld G3 rfl rfl (sE 4 rfl (fun _ => rfl) hx3880) rfl fin1)) (DF.nil fun K3882 hF => (gt hb3867 rfl ?_))))
                   obtain ⟨r3883, hx3884, hr3885⟩ := bd_some hr3881
                   refine clS C88 rfl rfl rfl rfl (fun w H hH le => w88 hH x3871 x3879 (f0_ := requests) (hK1119.mono (le.at 4 rfl)) (h_requests.mono (RRequest.mono) (le.at 10 rfl)) hx3884) (gt hb3867 rfl (ltI rfl rfl rfl (pt hb3867 rfl rfl (on ?_))))
                   cases hr3885
                   intro a w hS hA
                   exact ⟨hS.selH [1, 2, 3, 4, 5, 6, 7, 8, 9, 10] rfl, hA.cut ⟨rfl, rfl, rfl, rfl, rfl, rfl, rfl, tv⟩⟩
                  ·have hr3886 := if_n hb3867 hx3865
                   refine drG 14 mixed (by kernel_rfl) rfl (dt rfl (m1 rfl fin1) (dt rfl (m1 rfl fin1) (dt rfl (gtI rfl rfl rfl fin1) (dt rfl (m1 rfl fin1) (dt rfl (gf hb3867 rfl fin1) (dt rfl (gf hb3867 rfl fin1) (dt rfl (gf hb3867 rfl fin1) (dt rfl (gf hb3867 rfl fin1) (dt rfl (gf hb3867 rfl fin1) (dt rfl (gf hb3867 rfl fin1) (dt rfl (gf hb3867 rfl fin1) ?_)))))))))))
                   refine dt rfl (gf hb3867 rfl fin1) (dt rfl (gf hb3867 rfl fin1) (dt rfl (gf hb3867 rfl fin1) (DF.nil fun K3887 hF => (gf hb3867 rfl (gf hb3867 rfl (pf hb3867 rfl rfl (on ?_)))))))
                   cases hr3886
                   intro a w hS hA
                   exact ⟨hS.selH [1, 2, 3, 4, 5, 6, 7, 8, 9, 10] rfl, hA.cut ⟨rfl, rfl, rfl, rfl, rfl, rfl, rfl, tv⟩⟩
                 ·rintro a w ⟨hS, hA⟩
                  refine TG.ap ?_ hS hA
                  refine cb rfl (fun hc3891 => ?_) (fun hc3891 => ?_)
                  ·have hr3892 := if_p hc3891 hr3866
                   refine sk (sq (bk ?_))
                   obtain ⟨hk3912, hr3913⟩ := chk_some hr3892
                   obtain ⟨hk3914, hr3915⟩ := chk_some hr3913
                   obtain ⟨x3916, hx3917, hr3918⟩ := bd_some hr3915
                   refine TG.addr 4 rfl (lt_of0 hx3917) fun b3919 h => ?_; subst h
                   obtain ⟨hk3920, hr3921⟩ := chk_some hr3918
                   obtain ⟨x3922, hx3923, hr3924⟩ := bd_some hr3921
                   refine drG3 14 [] [(2, 39, .slice (some ⟨b3919, 0, none⟩) e1195.length cap1199), (3, 40, .int .i64 s3838.1), (4, 41, .int .i64 (s3838.1 - 1))] mixed (fun _ _ _ _ _ h => h) (by kernel_rfl) (by kernel_rfl) (by kernel_rfl) rfl (by kernel_rfl) (.cons rfl rfl rfl (fun _ => rfl) (by kernel_rfl) (by kernel_rfl) (fun _ _ => rfl) (mvY rfl) (.cons rfl rfl rfl (fun _ => rfl) (by kernel_rfl) (by kernel_rfl) (fun _ _ => rfl) (mvY rfl) (.cons rfl rfl rfl (fun _ => rfl) (by kernel_rfl) (by kernel_rfl) (fun _ _ => rfl) (sbIY rfl rfl hk3912) (.nil)))) (dc rfl (by kernel_rfl) tv rfl rfl (m1 rfl fin1) (dc rfl (by kernel_rfl) tv rfl rfl (m1 rfl fin1) (DC.pre (.head _) rfl (DC.pre (.tail _ (.head _)) rfl (DC.pre (.tail _ (.tail _ (.head _))) rfl (dc rfl (by kernel_rfl) tv rfl rfl (m1 rfl fin1) (dc rfl (by kernel_rfl) tv rfl rfl (m1 rfl fin1) (dc rfl (by kernel_rfl) tv rfl rfl (sbI rfl rfl rfl hk3912 fin1) (dc rfl (by kernel_rfl) tv rfl rfl (iaP U86 Z3 rfl rfl rfl (by omega) (Nat.lt_of_lt_of_eq (lt_of hx3917) hln3839) fin1) (dc rfl (by kernel_rfl) tv rfl rfl (ld G3 rfl rfl (sE 4 rfl (fun _ => rfl) hx3917) rfl fin1) (dc rfl (by kernel_rfl) tv rfl rfl (m1 rfl fin1) ?_)))))))))))
                   refine dc rfl (by kernel_rfl) tv rfl rfl (m1 rfl fin1) (dc rfl (by kernel_rfl) tv rfl rfl (iaP U86 Z3 rfl rfl rfl (by omega) (Nat.lt_of_lt_of_eq (lt_of hx3923) hln3839) fin1) (dc rfl (by kernel_rfl) tv rfl rfl (ld G3 rfl rfl (sE 4 rfl (fun _ => rfl) hx3923) rfl fin1) (DC.nil fun K3925 hF => (iaP U86 Z3 rfl rfl rfl (by omega) (Nat.lt_of_lt_of_eq (lt_of hx3923) hln3839) ?_))))
                   have hln3926 : (s3838.2.set s3838.1.toNat x3916).length = e1195.length := (lenS _ _ _).trans hln3839
                   refine stE 4 x3916 (q := ⟨b3919, 0, none⟩) (j := s3838.1.toNat) (size := 1) (cs := [.int .i64 x3916]) (off := 0) Z3 rfl rfl rfl (fun _ => rfl) hx3923 rfl rfl rfl rfl rfl ?_
                   obtain ⟨x3927, hx3928, hr3929⟩ := bd_some hr3924
                   refine iaP U86 Z3 rfl rfl rfl (by omega) (Nat.lt_of_lt_of_eq (lt_of hx3928) hln3926) ?_
                   have hln3930 : ((s3838.2.set s3838.1.toNat x3916).set ((s3838.1 - 1).toNat) x3922).length = e1195.length := (lenS _ _ _).trans hln3926
                   refine stE 4 x3922 (q := ⟨b3919, 0, none⟩) (j := (s3838.1 - 1).toNat) (size := 1) (cs := [.int .i64 x3922]) (off := 0) Z3 rfl rfl rfl (fun _ => rfl) hx3928 rfl rfl rfl rfl rfl (on (rg (m1 rfl (sbI rfl rfl rfl hk3912 (a1 rfl (on ?_))))))
                   cases hr3929
                   intro a w hS hA
                   exact ⟨_, hz3841, hS.selH [1, 2, 3, 4, 5, 6, 7, 8, 9, 10] rfl, hA.cut ⟨rfl, rfl, rfl, rfl, rfl, rfl, tv⟩, hln3930⟩
                  ·have hr3931 := if_f hc3891 hr3866
                   refine xt rfl ?_
                   cases hr3931
                   obtain rfl := Fin.out hz3841
                   intro a w hS hA
                   exact ⟨hS, hA.cut ⟨rfl, rfl, rfl, rfl, rfl, tv⟩, hln3839⟩
               ·rintro a w ⟨hS, hA, hln3837⟩
                refine TG.ap ?_ hS hA
                refine rg (m1 rfl ?_)
                obtain ⟨hk3932, hr3933⟩ := chk_some hr3836
                refine adI rfl rfl rfl hk3932 (a1 rfl (on ?_))
                cases hr3933
                intro a w hS hA
                exact ⟨_, hz3641, hS, hA.cut ⟨rfl, rfl, rfl, rfl, rfl, tv⟩, hln3837⟩
              ·have hr3934 := if_n hc3646 hr3640
               refine xt rfl ?_
               cases hr3934
               obtain rfl := Fin.out hz3641
               intro a w hS hA
               exact ⟨hS, hA.cut tv, hln3639⟩
            ·rintro a w ⟨hS, hA, hln3637⟩
             refine TG.ap ?_ hS hA
             cases hr3636
             intro a w hS hA
             refine ret0 hA rfl ?_
             exact ⟨_, rfl, ⟨rfl, hS, hln3637⟩⟩
           ·rintro a w v hA (⟨rfl, hS, hln3429⟩)
            refine putK rfl hA hS (on (sq (rg (m1 rfl (a1 rfl (on (rg (m1 rfl (m1 rfl ?_)))))))))
            obtain ⟨hk3935, hr3936⟩ := chk_some hr3428
            refine adI rfl rfl rfl hk3935 (a1 rfl (on ?_))
            cases hr3936
            intro a w hS hA
            exact ⟨_, hz3001, hS, hA.cut ⟨rfl, rfl, rfl, rfl, rfl, rfl, tv⟩, hln3429⟩
          ·have hr3937 := if_n hc3006 hr3000
           refine xt rfl ?_
           cases hr3937
           obtain rfl := Fin.out hz3001
           intro a w hS hA
           exact ⟨hS, hA.cut ⟨rfl, rfl, rfl, rfl, rfl, tv⟩, hln2999⟩
        ·rintro a w ⟨hS, hA, hln2997⟩
         refine TG.ap ?_ hS hA
         refine sq (rg (m1 rfl (m1 rfl (m1 rfl (m1 rfl ?_)))))
         obtain ⟨t4140, hx4141, hr4142⟩ := bd_some hr2996
         refine clI C122 Tryz.func122 rfl Tryz.ntmps122 rfl rfl rfl rfl (fun v w => (v = .tuple #[] ∧ St M W H [K1160, K1134, K1123, K1118, K1115, K1112, K20, K17, K14, H] [(4, Own.list ad1198 cap1199 3 1 (encI .i64) t4140), (2, cel b1161 133 [.slice ad10 r_2.words.length cap11, .int .i64 r_2.out, .int .i64 r_2.within, .map b1132, .slice ad1129 r1120.1.swaps.length cap1130, .slice none 0 0, .slice none 0 0, .slice (some ⟨b1159, 0, none⟩) ((List.replicate requests.length (0 : Int)).length) requests.length]), (1, Own.list (some ⟨b1159, 0, none⟩) requests.length 31 1 (encI .i64) (List.replicate requests.length (0 : Int)))] w ∧ t4140.length = e1195.length)) ?_ ?_
         ·refine sq (rg (m1 rfl ?_))
          obtain ⟨hk4144, hr4145⟩ := chk_some hx4141
          refine adI rfl rfl rfl hk4144 (a1 rfl (on ?_))
          obtain ⟨e4344, hl4345, hr4346⟩ := bd_some hr4145
          refine jn (fun a w => St M W H [K1160, K1134, K1123, K1118, K1115, K1112, K20, K17, K14, H] [(4, Own.list ad1198 cap1199 3 1 (encI .i64) e4344), (2, cel b1161 133 [.slice ad10 r_2.words.length cap11, .int .i64 r_2.out, .int .i64 r_2.within, .map b1132, .slice ad1129 r1120.1.swaps.length cap1130, .slice none 0 0, .slice none 0 0, .slice (some ⟨b1159, 0, none⟩) ((List.replicate requests.length (0 : Int)).length) requests.length]), (1, Own.list (some ⟨b1159, 0, none⟩) requests.length 31 1 (encI .i64) (List.replicate requests.length (0 : Int)))] w ∧ Has [] 53 a [] ∧ e4344.length = e1195.length) ?_ ?_
          ·refine bk ?_
           refine lp hl4345 (fun s4348 a w => St M W H [K1160, K1134, K1123, K1118, K1115, K1112, K20, K17, K14, H] [(4, Own.list ad1198 cap1199 3 1 (encI .i64) s4348.2), (2, cel b1161 133 [.slice ad10 r_2.words.length cap11, .int .i64 r_2.out, .int .i64 r_2.within, .map b1132, .slice ad1129 r1120.1.swaps.length cap1130, .slice none 0 0, .slice none 0 0, .slice (some ⟨b1159, 0, none⟩) ((List.replicate requests.length (0 : Int)).length) requests.length]), (1, Own.list (some ⟨b1159, 0, none⟩) requests.length 31 1 (encI .i64) (List.replicate requests.length (0 : Int)))] w ∧ Has [] 53 a [(0, .slice ad1198 e1195.length cap1199), (1, .int .i64 (e2994.1 : Int)), (2, .int .i64 (e1195.length : Int)), (3, .func (.func 88) [].toArray [.pointer (some q1117)].toArray), (8, .int .i64 (s4348.1 : Int))] ∧ s4348.2.length = e1195.length) ?_ ?_
           ·intro a w hS hA
            exact ⟨hS, hA.cut ⟨rfl, rfl, rfl, rfl, rfl, tv⟩, hln2997⟩
           ·rintro j s4348 y4352 hr4350 hz4351 a w ⟨hS, hA, hln4349⟩
            refine TG.ap ?_ hS hA
            unfold m42_5 at hr4350
            refine sq (sq (rg (m1 rfl (m1 rfl (ltI rfl rfl rfl (on ?_))))))
            refine ci rfl (fun hc4356 => ?_) (fun hc4356 => ?_)
            ·have hr4357 := if_p hc4356 hr4350
             refine sk (sq (bk (sq (rg (m1 rfl (a1 rfl (on ?_)))))))
             obtain ⟨e4544, hl4545, hr4546⟩ := bd_some hr4357
             refine jn (fun a w => St M W H [K1160, K1134, K1123, K1118, K1115, K1112, K20, K17, K14, H] [(4, Own.list ad1198 cap1199 3 1 (encI .i64) e4544), (2, cel b1161 133 [.slice ad10 r_2.words.length cap11, .int .i64 r_2.out, .int .i64 r_2.within, .map b1132, .slice ad1129 r1120.1.swaps.length cap1130, .slice none 0 0, .slice none 0 0, .slice (some ⟨b1159, 0, none⟩) ((List.replicate requests.length (0 : Int)).length) requests.length]), (1, Own.list (some ⟨b1159, 0, none⟩) requests.length 31 1 (encI .i64) (List.replicate requests.length (0 : Int)))] w ∧ Has [] 53 a [(0, .slice ad1198 e1195.length cap1199), (1, .int .i64 (e2994.1 : Int)), (2, .int .i64 (e1195.length : Int)), (3, .func (.func 88) [].toArray [.pointer (some q1117)].toArray), (8, .int .i64 (s4348.1 : Int))] ∧ e4544.length = e1195.length) ?_ ?_
             ·refine bk ?_
              refine lp hl4545 (fun s4548 a w => St M W H [K1160, K1134, K1123, K1118, K1115, K1112, K20, K17, K14, H] [(4, Own.list ad1198 cap1199 3 1 (encI .i64) s4548.2), (2, cel b1161 133 [.slice ad10 r_2.words.length cap11, .int .i64 r_2.out, .int .i64 r_2.within, .map b1132, .slice ad1129 r1120.1.swaps.length cap1130, .slice none 0 0, .slice none 0 0, .slice (some ⟨b1159, 0, none⟩) ((List.replicate requests.length (0 : Int)).length) requests.length]), (1, Own.list (some ⟨b1159, 0, none⟩) requests.length 31 1 (encI .i64) (List.replicate requests.length (0 : Int)))] w ∧ Has [] 53 a [(0, .slice ad1198 e1195.length cap1199), (1, .int .i64 (e2994.1 : Int)), (2, .int .i64 (e1195.length : Int)), (3, .func (.func 88) [].toArray [.pointer (some q1117)].toArray), (8, .int .i64 (s4348.1 : Int)), (9, .int .i64 s4548.1)] ∧ s4548.2.length = e1195.length) ?_ ?_
              ·intro a w hS hA
               exact ⟨hS, hA.cut ⟨rfl, rfl, rfl, rfl, rfl, rfl, tv⟩, hln4349⟩
              ·rintro j s4548 y4552 hr4550 hz4551 a w ⟨hS, hA, hln4549⟩
               refine TG.ap ?_ hS hA
               unfold m42_6 at hr4550
               refine sq (sq ?_)
               obtain ⟨t4574, hx4575, hr4576⟩ := bd_some hr4550
               refine jn (fun a w => St M W H [K1160, K1134, K1123, K1118, K1115, K1112, K20, K17, K14, H] [(4, Own.list ad1198 cap1199 3 1 (encI .i64) s4548.2), (2, cel b1161 133 [.slice ad10 r_2.words.length cap11, .int .i64 r_2.out, .int .i64 r_2.within, .map b1132, .slice ad1129 r1120.1.swaps.length cap1130, .slice none 0 0, .slice none 0 0, .slice (some ⟨b1159, 0, none⟩) ((List.replicate requests.length (0 : Int)).length) requests.length]), (1, Own.list (some ⟨b1159, 0, none⟩) requests.length 31 1 (encI .i64) (List.replicate requests.length (0 : Int)))] w ∧ Has [] 53 a [(0, .slice ad1198 e1195.length cap1199), (1, .int .i64 (e2994.1 : Int)), (2, .int .i64 (e1195.length : Int)), (3, .func (.func 88) [].toArray [.pointer (some q1117)].toArray), (8, .int .i64 (s4348.1 : Int)), (9, .int .i64 s4548.1), (34, .bool t4574)]) ?_ ?_
               ·by_cases hb4577 : (e2994.1 : Int) < s4548.1
                ·have hr4578 := if_p hb4577 hx4575
                 obtain ⟨hk4579, hr4580⟩ := chk_some hr4578
                 obtain ⟨x4581, hx4582, hr4583⟩ := bd_some hr4580
                 refine TG.addr 4 rfl (lt_of0 hx4582) fun b4584 h => ?_; subst h
                 obtain ⟨hk4585, hr4586⟩ := chk_some hr4583
                 obtain ⟨hk4587, hr4588⟩ := chk_some hr4586
                 obtain ⟨x4589, hx4590, hr4591⟩ := bd_some hr4588
                 refine drG 14 mixed (by kernel_rfl) rfl (dt rfl (m1 rfl fin1) (dt rfl (m1 rfl fin1) (dt rfl (gtI rfl rfl rfl fin1) (dt rfl (m1 rfl fin1) (dt rfl (gt hb4577 rfl (m1 rfl fin1)) (dt rfl (gt hb4577 rfl (m1 rfl fin1)) (dt rfl (gt hb4577 rfl (m1 rfl fin1)) (dt rfl (gt hb4577 rfl (iaP U86 Z3 rfl rfl rfl (by omega) (Nat.lt_of_lt_of_eq (lt_of hx4582) hln4549) fin1)) (dt rfl (gt hb4577 rfl (ld G3 rfl rfl (sE 4 rfl (fun _ => rfl) hx4582) rfl fin1)) (dt rfl (gt hb4577 rfl (m1 rfl fin1)) (dt rfl (gt hb4577 rfl (m1 rfl fin1)) ?_)))))))))))
                 refine dt rfl (gt hb4577 rfl (sbI rfl rfl rfl hk4585 fin1)) (dt rfl (gt hb4577 rfl (iaP U86 Z3 rfl rfl rfl (by omega) (Nat.lt_of_lt_of_eq (lt_of hx4590) hln4549) fin1)) (dt rfl (gt hb4577 rfl (ld G3 rfl rfl (sE 4 rfl (fun _ => rfl) hx4590) rfl fin1)) (DF.nil fun K4592 hF => (gt hb4577 rfl ?_))))
                 obtain ⟨r4593, hx4594, hr4595⟩ := bd_some hr4591
                 refine clS C88 rfl rfl rfl rfl (fun w H hH le => w88 hH x4581 x4589 (f0_ := requests) (hK1119.mono (le.at 4 rfl)) (h_requests.mono (RRequest.mono) (le.at 10 rfl)) hx4594) (gt hb4577 rfl (ltI rfl rfl rfl (pt hb4577 rfl rfl (on ?_))))
                 cases hr4595
                 intro a w hS hA
                 exact ⟨hS.selH [1, 2, 3, 4, 5, 6, 7, 8, 9, 10] rfl, hA.cut ⟨rfl, rfl, rfl, rfl, rfl, rfl, rfl, tv⟩⟩
                ·have hr4596 := if_n hb4577 hx4575
                 refine drG 14 mixed (by kernel_rfl) rfl (dt rfl (m1 rfl fin1) (dt rfl (m1 rfl fin1) (dt rfl (gtI rfl rfl rfl fin1) (dt rfl (m1 rfl fin1) (dt rfl (gf hb4577 rfl fin1) (dt rfl (gf hb4577 rfl fin1) (dt rfl (gf hb4577 rfl fin1) (dt rfl (gf hb4577 rfl fin1) (dt rfl (gf hb4577 rfl fin1) (dt rfl (gf hb4577 rfl fin1) (dt rfl (gf hb4577 rfl fin1) ?_)))))))))))
                 refine dt rfl (gf hb4577 rfl fin1) (dt rfl (gf hb4577 rfl fin1) (dt rfl (gf hb4577 rfl fin1) (DF.nil fun K4597 hF => (gf hb4577 rfl (gf hb4577 rfl (pf hb4577 rfl rfl (on ?_)))))))
                 cases hr4596
                 intro a w hS hA
                 exact ⟨hS.selH [1, 2, 3, 4, 5, 6, 7, 8, 9, 10] rfl, hA.cut ⟨rfl, rfl, rfl, rfl, rfl, rfl, rfl, tv⟩⟩
               ·rintro a w ⟨hS, hA⟩
                refine TG.ap ?_ hS hA
                refine cb rfl (fun hc4601 => ?_) (fun hc4601 => ?_)
                ·have hr4602 := if_p hc4601 hr4576
                 refine sk (sq (bk ?_))
                 obtain ⟨hk4622, hr4623⟩ := chk_some hr4602
                 obtain ⟨hk4624, hr4625⟩ := chk_some hr4623
                 obtain ⟨x4626, hx4627, hr4628⟩ := bd_some hr4625
                 refine TG.addr 4 rfl (lt_of0 hx4627) fun b4629 h => ?_; subst h
                 obtain ⟨hk4630, hr4631⟩ := chk_some hr4628
                 obtain ⟨x4632, hx4633, hr4634⟩ := bd_some hr4631
                 refine drG3 14 [] [(2, 39, .slice (some ⟨b4629, 0, none⟩) e1195.length cap1199), (3, 40, .int .i64 s4548.1), (4, 41, .int .i64 (s4548.1 - 1))] mixed (fun _ _ _ _ _ h => h) (by kernel_rfl) (by kernel_rfl) (by kernel_rfl) rfl (by kernel_rfl) (.cons rfl rfl rfl (fun _ => rfl) (by kernel_rfl) (by kernel_rfl) (fun _ _ => rfl) (mvY rfl) (.cons rfl rfl rfl (fun _ => rfl) (by kernel_rfl) (by kernel_rfl) (fun _ _ => rfl) (mvY rfl) (.cons rfl rfl rfl (fun _ => rfl) (by kernel_rfl) (by kernel_rfl) (fun _ _ => rfl) (sbIY rfl rfl hk4622) (.nil)))) (dc rfl (by kernel_rfl) tv rfl rfl (m1 rfl fin1) (dc rfl (by kernel_rfl) tv rfl rfl (m1 rfl fin1) (DC.pre (.head _) rfl (DC.pre (.tail _ (.head _)) rfl (DC.pre (.tail _ (.tail _ (.head _))) rfl (dc rfl (by kernel_rfl) tv rfl rfl (m1 rfl fin1) (dc rfl (by kernel_rfl) tv rfl rfl (m1 rfl fin1) (dc rfl (by kernel_rfl) tv rfl rfl (sbI rfl rfl rfl hk4622 fin1) (dc rfl (by kernel_rfl) tv rfl rfl (iaP U86 Z3 rfl rfl rfl (by omega) (Nat.lt_of_lt_of_eq (lt_of hx4627) hln4549) fin1) (dc rfl (by kernel_rfl) tv rfl rfl (ld G3 rfl rfl (sE 4 rfl (fun _ => rfl) hx4627) rfl fin1) (dc rfl (by kernel_rfl) tv rfl rfl (m1 rfl fin1) ?_)))))))))))
                 refine dc rfl (by kernel_rfl) tv rfl rfl (m1 rfl fin1) (dc rfl (by kernel_rfl) tv rfl rfl (iaP U86 Z3 rfl rfl rfl (by omega) (Nat.lt_of_lt_of_eq (lt_of hx4633) hln4549) fin1) (dc rfl (by kernel_rfl) tv rfl rfl (ld G3 rfl rfl (sE 4 rfl (fun _ => rfl) hx4633) rfl fin1) (DC.nil fun K4635 hF => (iaP U86 Z3 rfl rfl rfl (by omega) (Nat.lt_of_lt_of_eq (lt_of hx4633) hln4549) ?_))))
                 have hln4636 : (s4548.2.set s4548.1.toNat x4626).length = e1195.length := (lenS _ _ _).trans hln4549
                 refine stE 4 x4626 (q := ⟨b4629, 0, none⟩) (j := s4548.1.toNat) (size := 1) (cs := [.int .i64 x4626]) (off := 0) Z3 rfl rfl rfl (fun _ => rfl) hx4633 rfl rfl rfl rfl rfl ?_
                 obtain ⟨x4637, hx4638, hr4639⟩ := bd_some hr4634
                 refine iaP U86 Z3 rfl rfl rfl (by omega) (Nat.lt_of_lt_of_eq (lt_of hx4638) hln4636) ?_
                 have hln4640 : ((s4548.2.set s4548.1.toNat x4626).set ((s4548.1 - 1).toNat) x4632).length = e1195.length := (lenS _ _ _).trans hln4636
                 refine stE 4 x4632 (q := ⟨b4629, 0, none⟩) (j := (s4548.1 - 1).toNat) (size := 1) (cs := [.int .i64 x4632]) (off := 0) Z3 rfl rfl rfl (fun _ => rfl) hx4638 rfl rfl rfl rfl rfl (on (rg (m1 rfl (sbI rfl rfl rfl hk4622 (a1 rfl (on ?_))))))
                 cases hr4639
                 intro a w hS hA
                 exact ⟨_, hz4551, hS.selH [1, 2, 3, 4, 5, 6, 7, 8, 9, 10] rfl, hA.cut ⟨rfl, rfl, rfl, rfl, rfl, rfl, tv⟩, hln4640⟩
                ·have hr4641 := if_f hc4601 hr4576
                 refine xt rfl ?_
                 cases hr4641
                 obtain rfl := Fin.out hz4551
                 intro a w hS hA
                 exact ⟨hS, hA.cut ⟨rfl, rfl, rfl, rfl, rfl, tv⟩, hln4549⟩
             ·rintro a w ⟨hS, hA, hln4547⟩
              refine TG.ap ?_ hS hA
              refine rg (m1 rfl (adI rfl rfl rfl (by omega) (a1 rfl (on ?_))))
              cases hr4546
              intro a w hS hA
              exact ⟨_, hz4351, hS, hA.cut ⟨rfl, rfl, rfl, rfl, rfl, tv⟩, hln4547⟩
            ·have hr4642 := if_n hc4356 hr4350
             refine xt rfl ?_
             cases hr4642
             obtain rfl := Fin.out hz4351
             intro a w hS hA
             exact ⟨hS, hA.cut tv, hln4349⟩
          ·rintro a w ⟨hS, hA, hln4347⟩
           refine TG.ap ?_ hS hA
           cases hr4346
           intro a w hS hA
           refine ret0 hA rfl ?_
           exact ⟨_, rfl, ⟨rfl, hS, hln4347⟩⟩
         ·rintro a w v hA (⟨rfl, hS, hln4143⟩)
          refine putK rfl hA hS (on ?_)
          obtain ⟨e4663, hl4664, hr4665⟩ := bd_some hr4142
          refine jn (fun a w => St M W H [K1160, K1134, K1123, K1118, K1115, K1112, K20, K17, K14, H] [(4, Own.list ad1198 cap1199 3 1 (encI .i64) t4140), (2, cel b1161 133 [.slice ad10 r_2.words.length cap11, .int .i64 r_2.out, .int .i64 r_2.within, .map b1132, .slice ad1129 r1120.1.swaps.length cap1130, .slice none 0 0, .slice none 0 0, .slice (some ⟨b1159, 0, none⟩) ((List.replicate requests.length (0 : Int)).length) requests.length]), (1, Own.list (some ⟨b1159, 0, none⟩) requests.length 31 1 (encI .i64) (List.replicate requests.length (0 : Int)))] w ∧ Has [] 63 a []) ?_ ?_
          ·refine bk ?_
           refine lp hl4664 (fun s4666 a w => St M W H [K1160, K1134, K1123, K1118, K1115, K1112, K20, K17, K14, H] [(4, Own.list ad1198 cap1199 3 1 (encI .i64) t4140), (2, cel b1161 133 [.slice ad10 r_2.words.length cap11, .int .i64 r_2.out, .int .i64 r_2.within, .map b1132, .slice ad1129 r1120.1.swaps.length cap1130, .slice none 0 0, .slice none 0 0, .slice (some ⟨b1159, 0, none⟩) ((List.replicate requests.length (0 : Int)).length) requests.length]), (1, Own.list (some ⟨b1159, 0, none⟩) requests.length 31 1 (encI .i64) (List.replicate requests.length (0 : Int)))] w ∧ Has [] 63 a [(0, .slice ad1198 e1195.length cap1199), (1, .int .i64 (e1195.length : Int)), (2, .func (.func 88) [].toArray [.pointer (some q1117)].toArray), (6, .int .i64 s4666)]) ?_ ?_
           ·exact cu ⟨rfl, rfl, rfl, rfl, tv⟩
           ·rintro j s4666 y4669 hr4667 hz4668 a w ⟨hS, hA⟩
            refine TG.ap ?_ hS hA
            unfold m42_7 at hr4667
            refine sq (sq (rg (m1 rfl (m1 rfl (ltI rfl rfl rfl (on ?_))))))
            refine ci rfl (fun hc4673 => ?_) (fun hc4673 => ?_)
            ·have hr4674 := if_p hc4673 hr4667
             refine sk (bk (sq (rg (m1 rfl ?_))))
             obtain ⟨hk4691, hr4692⟩ := chk_some hr4674
             refine mlI rfl rfl rfl hk4691 (a1 rfl (a1 rfl (on (sq ?_))))
             obtain ⟨e4699, hl4700, hr4701⟩ := bd_some hr4692
             refine jn (fun a w => St M W H [K1160, K1134, K1123, K1118, K1115, K1112, K20, K17, K14, H] [(4, Own.list ad1198 cap1199 3 1 (encI .i64) t4140), (2, cel b1161 133 [.slice ad10 r_2.words.length cap11, .int .i64 r_2.out, .int .i64 r_2.within, .map b1132, .slice ad1129 r1120.1.swaps.length cap1130, .slice none 0 0, .slice none 0 0, .slice (some ⟨b1159, 0, none⟩) ((List.replicate requests.length (0 : Int)).length) requests.length]), (1, Own.list (some ⟨b1159, 0, none⟩) requests.length 31 1 (encI .i64) (List.replicate requests.length (0 : Int)))] w ∧ Has [] 63 a [(0, .slice ad1198 e1195.length cap1199), (1, .int .i64 (e1195.length : Int)), (2, .func (.func 88) [].toArray [.pointer (some q1117)].toArray), (6, .int .i64 s4666), (7, .int .i64 (e4699 : Int))]) ?_ ?_
             ·refine bk ?_
              refine lp hl4700 (fun s4702 a w => St M W H [K1160, K1134, K1123, K1118, K1115, K1112, K20, K17, K14, H] [(4, Own.list ad1198 cap1199 3 1 (encI .i64) t4140), (2, cel b1161 133 [.slice ad10 r_2.words.length cap11, .int .i64 r_2.out, .int .i64 r_2.within, .map b1132, .slice ad1129 r1120.1.swaps.length cap1130, .slice none 0 0, .slice none 0 0, .slice (some ⟨b1159, 0, none⟩) ((List.replicate requests.length (0 : Int)).length) requests.length]), (1, Own.list (some ⟨b1159, 0, none⟩) requests.length 31 1 (encI .i64) (List.replicate requests.length (0 : Int)))] w ∧ Has [] 63 a [(0, .slice ad1198 e1195.length cap1199), (1, .int .i64 (e1195.length : Int)), (2, .func (.func 88) [].toArray [.pointer (some q1117)].toArray), (6, .int .i64 s4666), (7, .int .i64 (s4702.1 : Int)), (8, .int .i64 s4702.2)]) ?_ ?_
              ·exact cu ⟨rfl, rfl, rfl, rfl, rfl, rfl, tv⟩
              ·rintro j s4702 y4705 hr4703 hz4704 a w ⟨hS, hA⟩
               refine TG.ap ?_ hS hA
               unfold m42_8 at hr4703
               refine sq (sq (rg (m1 rfl (m1 rfl (leI rfl rfl rfl (on ?_))))))
               refine ci rfl (fun hc4709 => ?_) (fun hc4709 => ?_)
               ·have hr4710 := if_p hc4709 hr4703
                refine sk (bk (sq (rg (m1 rfl (m1 rfl (m1 rfl (m1 rfl ?_)))))))
                obtain ⟨hk4713, hr4714⟩ := chk_some hr4710
                refine adI rfl rfl rfl hk4713 (m1 rfl (m1 rfl ?_))
                cases hr4714
               ·have hr4715 := if_n hc4709 hr4703
                refine xt rfl ?_
                cases hr4715
                obtain rfl := Fin.out hz4704
                exact cu ⟨rfl, rfl, rfl, rfl, rfl, tv⟩
             ·rintro a w ⟨hS, hA⟩
              refine TG.ap ?_ hS hA
              refine sq (sq (rg (m1 rfl (m1 rfl ?_))))
              obtain ⟨hk4716, hr4717⟩ := chk_some hr4701
              refine adI rfl rfl rfl hk4716 (a1 rfl (on (sq (rg (m1 rfl (m1 rfl (ltI rfl rfl rfl (on ?_))))))))
              refine ci rfl (fun hc4721 => ?_) (fun hc4721 => ?_)
              ·have hr4722 := if_p hc4721 hr4717
               refine rg (m1 rfl (m1 rfl (m1 rfl (m1 rfl (m1 rfl ?_)))))
               cases hr4722
              ·have hr4723 := if_n hc4721 hr4717
               refine sk (rg (m1 rfl ?_))
               obtain ⟨hk4724, hr4725⟩ := chk_some hr4723
               refine mlI rfl rfl rfl hk4724 (a1 rfl (on ?_))
               cases hr4725
               intro a w hS hA
               exact ⟨_, hz4668, hS, hA.cut ⟨rfl, rfl, rfl, rfl, tv⟩⟩
            ·have hr4726 := if_n hc4673 hr4667
             refine xt rfl ?_
             cases hr4726
             obtain rfl := Fin.out hz4668
             exact cu tv
          ·rintro a w ⟨hS, hA⟩
           refine TG.ap ?_ hS hA
           cases hr4665
           intro a w hS hA
           refine ret0 hA rfl ?_
           exact ⟨_, rfl, ⟨rfl, hS, hln4143⟩⟩
       ·rintro a w v hA (⟨rfl, hS, hln2559⟩)
        refine putK rfl hA hS (on ?_)
        cases hr2558
        intro a w hS hA
        refine ret0 hA rfl ?_
        exact ⟨_, rfl, ⟨rfl, hS, hln2559⟩⟩
      ·rintro a w v hA (⟨rfl, hS, hln1892⟩)
       refine putK rfl hA hS (on (sq (sq (rg (m1 rfl (TG.len 4 rfl fun _ => (lnL U86 rfl rfl (m1 rfl (on (TG.nilRow 7 63 5 ?_))))))))))
       have hR4840 : Rows (RRequest) 5 H [] ([] : List Request) := tv
       refine TG.nilRow 8 3 1 (TG.as 8 (z := Own.list none 0 3 1 (encI .i64) ([] : List Int)) rfl rfl (TG.as 7 (z := Own.rows none 0 63 5 [] ([] : List Request)) rfl rfl ?_))
       obtain ⟨e5016, hl5017, hr5018⟩ := bd_some hr1891
       refine jn (fun a w => ∃ (ad5019 : Option Addr) (cap5020 : Nat) (ad5021 : Option Addr) (cap5022 : Nat) (css5023 : List (List Value)) (K5024 : Hp), St M W H [K5024, K1160, K1134, K1123, K1118, K1115, K1112, K20, K17, K14, H] [(8, Own.list ad5019 cap5020 3 1 (encI .i64) e5016.1), (7, Own.rows ad5021 cap5022 63 5 css5023 e5016.2.1), (4, Own.list ad1198 cap1199 3 1 (encI .i64) t1889), (2, cel b1161 133 [.slice ad10 r_2.words.length cap11, .int .i64 r_2.out, .int .i64 r_2.within, .map b1132, .slice ad1129 r1120.1.swaps.length cap1130, .slice ad5021 e5016.2.1.length cap5022, .slice ad5019 e5016.1.length cap5020, .slice (some ⟨b1159, 0, none⟩) ((List.replicate requests.length (0 : Int)).length) requests.length]), (1, Own.list (some ⟨b1159, 0, none⟩) requests.length 31 1 (encI .i64) e5016.2.2)] w ∧ Has [] 106 a [(13, .pointer (some (⟨b1161, 0, none⟩)))] ∧ Rows (RRequest) 5 K5024 css5023 e5016.2.1 ∧ e5016.2.2.length = (List.replicate requests.length (0 : Int)).length) ?_ ?_
       ·refine bk ?_
        refine lp hl5017 (fun s5027 a w => ∃ (ad5028 : Option Addr) (cap5029 : Nat) (ad5030 : Option Addr) (cap5031 : Nat) (css5032 : List (List Value)) (K5033 : Hp), St M W H [K5033, K1160, K1134, K1123, K1118, K1115, K1112, K20, K17, K14, H] [(8, Own.list ad5028 cap5029 3 1 (encI .i64) s5027.2.1), (7, Own.rows ad5030 cap5031 63 5 css5032 s5027.2.2.1), (4, Own.list ad1198 cap1199 3 1 (encI .i64) t1889), (2, cel b1161 133 [.slice ad10 r_2.words.length cap11, .int .i64 r_2.out, .int .i64 r_2.within, .map b1132, .slice ad1129 r1120.1.swaps.length cap1130, .slice ad5030 s5027.2.2.1.length cap5031, .slice ad5028 s5027.2.1.length cap5029, .slice (some ⟨b1159, 0, none⟩) ((List.replicate requests.length (0 : Int)).length) requests.length]), (1, Own.list (some ⟨b1159, 0, none⟩) requests.length 31 1 (encI .i64) s5027.2.2.2)] w ∧ Has [] 106 a [(7, .pointer (some q1117)), (13, .pointer (some (⟨b1161, 0, none⟩))), (55, .slice ad1198 e1195.length cap1199), (56, .int .i64 (e1195.length : Int)), (57, .int .i64 (s5027.1 : Int))] ∧ Rows (RRequest) 5 K5033 css5032 s5027.2.2.1 ∧ s5027.2.2.2.length = (List.replicate requests.length (0 : Int)).length) ?_ ?_
        ·intro a w hS hA
         exact ⟨none, 0, none, 0, [], H, hS.selH [9, 0, 1, 2, 3, 4, 5, 6, 7, 8, 9] rfl, hA.cut ⟨rfl, rfl, rfl, rfl, rfl, tv⟩, hR4840, rfl⟩
        ·rintro j s5027 y5038 hr5036 hz5037 a w ⟨ad5028, cap5029, ad5030, cap5031, css5032, K5033, hS, hA, hR5034, hln5035⟩
         refine TG.ap ?_ hS hA
         unfold m42_9 at hr5036
         refine sq (rg (ltI rfl rfl rfl (on (sq ?_))))
         refine ci rfl (fun hc5042 => ?_) (fun hc5042 => ?_)
         ·have hr5043 := if_p hc5042 hr5036
          refine sk (sq (bk (sq (rg ?_))))
          obtain ⟨x5116, hx5117, hr5118⟩ := bd_some hr5043
          refine TG.addr 4 rfl (lt_of0 hx5117) fun b5119 h => ?_; subst h
          refine iaP U86 Z3 rfl rfl rfl rfl (Nat.lt_of_lt_of_eq (lt_of hx5117) hln1892) (ld G3 rfl rfl (sE 4 rfl (fun _ => rfl) hx5117) rfl (a1 rfl (on (sq ?_))))
          obtain ⟨hk5120, hr5121⟩ := chk_some hr5118
          obtain ⟨x5122, hx5123, hr5124⟩ := bd_some hr5121
          obtain ⟨p5125, rfl⟩ := h_requests.adr hx5123
          obtain ⟨cs5126, hcs5127, hq5128, hr5129⟩ := h_requests.at hx5123
          have hr5130 := hr5129
          obtain ⟨ad5131, cap5132, rfl, hl5133⟩ := hr5129
          have := hl5133.len
          obtain ⟨r5134, hx5135, hr5136⟩ := bd_some hr5124
          refine drG 11 mixed (by kernel_rfl) rfl (dt rfl (m1 rfl fin1) (dt rfl (nl rfl rfl fin1) (dt rfl (fb 7 U133 rfl rfl rfl rfl Z59 fin1) (dt rfl (ld G59 rfl rfl ((sO 2 rfl).drop 7) rfl fin1) (dt rfl (m1 rfl fin1) (dt rfl (m1 rfl fin1) (dt rfl (ld G64 rfl rfl (sS 5 rfl hK1119) rfl fin1) (dt rfl (m1 rfl fin1) (dt rfl (iaP U64 Z63 rfl rfl rfl (by omega) (lt_of hx5123) fin1) (dt rfl (ldA G63 Z63 rfl rfl (sS 11 rfl hq5128) rfl fin1) (dt rfl (clL C90 rfl rfl rfl rfl (fun w hS => w90 (Hp.le.refl (hp w)) (hg.mono (hS.hp 11 rfl)) (⟨r_2, r1120.1, s5027.2.2.1, s5027.2.1, s5027.2.2.2⟩ : decided) (cell_at (hS.get (t := 2) rfl)) ⟨ad10, cap11, (.map b1132), ad1129, cap1130, ad5030, cap5031, ad5028, cap5029, (some ⟨b1159, 0, none⟩), requests.length, (by simp only [hln5035]), (hl12.mono (Flat.mono _) (hS.hp 11 rfl)), (hm1128.mono (hS.hp 4 rfl)), (hl1131.mono (Flat.mono _) (hS.hp 4 rfl)), (rows_sl (H := hp w) (hS.get (t := 7) rfl) (hR5034.mono (RRequest.mono) (hS.hp 1 rfl)) (fun _ _ _ ho => ho)), (list_sl (H := hp w) (enc := encI .i64) (size := 1) (ad := ad5028) (cap := cap5029) (el := 3) (l := s5027.2.1) (fun _ => rfl) (hS.get (t := 8) rfl) (fun _ _ _ ho => ho)), (list_sl (H := hp w) (enc := encI .i64) (size := 1) (ad := (some ⟨b1159, 0, none⟩)) (cap := requests.length) (el := 31) (l := s5027.2.2.2) (fun _ => rfl) (hS.get (t := 1) rfl) (fun _ _ _ ho => ho))⟩ x5122 (RRequest.mono _ _ _ _ (hS.hp 11 rfl) hr5130) hx5135) fin1) ?_)))))))))))
          refine DF.nil fun K5137 hF => ?_
          obtain ⟨x5138, hx5139, hr5140⟩ := bd_some hr5136
          refine iaP U59 Z31 rfl rfl rfl (by omega) (Nat.lt_of_lt_of_eq (lt_of hx5139) hln5035) ?_
          have hln5141 : (s5027.2.2.2.set x5116.toNat r5134).length = (List.replicate requests.length (0 : Int)).length := (lenS _ _ _).trans hln5035
          refine stE 1 r5134 (q := ⟨b1159, 0, none⟩) (j := x5116.toNat) (size := 1) (cs := [.int .i64 r5134]) (off := 0) Z31 rfl rfl rfl (fun _ => rfl) hx5139 rfl rfl rfl rfl rfl (on (sq (rg (m1 rfl (nl rfl rfl (fb 7 U133 rfl rfl rfl rfl Z59 (ld G59 rfl rfl ((sO 2 rfl).drop 7) rfl (m1 rfl ?_))))))))
          obtain ⟨x5142, hx5143, hr5144⟩ := bd_some hr5140
          refine iaP U59 Z31 rfl rfl rfl (by omega) (Nat.lt_of_lt_of_eq (lt_of hx5143) hln5141) (ld G31 rfl rfl (sE 1 rfl (fun _ => rfl) hx5143) rfl (eqI rfl rfl rfl (on ?_)))
          obtain ⟨t5180, hx5181, hr5182⟩ := bd_some hr5144
          refine jn (fun a w => ∃ (ad5183 : Option Addr) (cap5184 : Nat) (ad5185 : Option Addr) (cap5186 : Nat) (css5187 : List (List Value)) (K5188 : Hp), St M W H [K5188, K5137, K5033, K1160, K1134, K1123, K1118, K1115, K1112, K20, K17, K14, H] [(8, Own.list ad5183 cap5184 3 1 (encI .i64) t5180.1), (7, Own.rows ad5185 cap5186 63 5 css5187 t5180.2), (4, Own.list (some ⟨b5119, 0, none⟩) cap1199 3 1 (encI .i64) t1889), (2, cel b1161 133 [.slice ad10 r_2.words.length cap11, .int .i64 r_2.out, .int .i64 r_2.within, .map b1132, .slice ad1129 r1120.1.swaps.length cap1130, .slice ad5185 t5180.2.length cap5186, .slice ad5183 t5180.1.length cap5184, .slice (some ⟨b1159, 0, none⟩) ((List.replicate requests.length (0 : Int)).length) requests.length]), (1, Own.list (some ⟨b1159, 0, none⟩) requests.length 31 1 (encI .i64) (s5027.2.2.2.set x5116.toNat r5134))] w ∧ Has [] 106 a [(7, .pointer (some q1117)), (13, .pointer (some (⟨b1161, 0, none⟩))), (55, .slice (some ⟨b5119, 0, none⟩) e1195.length cap1199), (56, .int .i64 (e1195.length : Int)), (57, .int .i64 (s5027.1 : Int))] ∧ Rows (RRequest) 5 K5188 css5187 t5180.2) ?_ ?_
          ·refine ci rfl (fun hc5190 => ?_) (fun hc5190 => ?_)
           ·have hr5191 := if_p hc5190 hx5181
            obtain ⟨hk5201, hr5202⟩ := chk_some hr5191
            have := lenA s5027.2.2.1 ([x5122] : List Request)
            obtain ⟨hk5219, hr5220⟩ := chk_some hr5202
            have := lenA s5027.2.1 ([x5116] : List Int)
            refine drG3 19 [11, 18] [(1, 82, .pointer (some (⟨b1161, 0, none⟩)))] mixed (fun _ _ _ _ _ h => h) (by kernel_rfl) (by kernel_rfl) (by kernel_rfl) rfl (by kernel_rfl) (.cons rfl rfl rfl (fun _ => rfl) (by kernel_rfl) (by kernel_rfl) (fun _ _ => rfl) (mvY rfl) (.nil)) (DC.detA rfl rfl rfl (fun τ a w K hS hA hF => TG.pa hS hA (m1 rfl fin1)) (DC.pre (.head _) rfl (dc rfl (by kernel_rfl) tv rfl rfl (m1 rfl fin1) (dc rfl (by kernel_rfl) tv rfl rfl (nl rfl rfl fin1) (dc rfl (by kernel_rfl) tv rfl rfl (fb 5 U133 rfl rfl rfl rfl Z64 fin1) (dc rfl (by kernel_rfl) tv rfl rfl (ld G64 rfl rfl (((sO 2 rfl).drop 5).take 1) rfl fin1) (dc rfl (by kernel_rfl) tv rfl rfl (ld G64 rfl rfl (sS 6 rfl hK1119) rfl fin1) (dc rfl (by kernel_rfl) tv rfl rfl (m1 rfl fin1) (dc rfl (by kernel_rfl) tv rfl rfl (iaP U64 Z63 rfl rfl rfl (by omega) (lt_of hx5123) fin1) (dc rfl (by kernel_rfl) tv rfl rfl (ldA G63 Z63 rfl rfl (sS 12 rfl hq5128) rfl fin1) ?_))))))))))
            refine DC.und (α := Option Addr × Nat) (none, 0) (fun q => .slice q.1 1 q.2) (fun (q : Option Addr × Nat) K => Sl (RRequest) 5 K q.1 q.2 ([x5122] : List Request)) (fun τ => τ = [(8, Own.list ad5028 cap5029 3 1 (encI .i64) s5027.2.1), (7, Own.rows ad5030 cap5031 63 5 css5032 s5027.2.2.1), (4, Own.list (some ⟨b5119, 0, none⟩) cap1199 3 1 (encI .i64) t1889), (2, cel b1161 133 [.slice ad10 r_2.words.length cap11, .int .i64 r_2.out, .int .i64 r_2.within, .map b1132, .slice ad1129 r1120.1.swaps.length cap1130, .slice ad5030 s5027.2.2.1.length cap5031, .slice ad5028 s5027.2.1.length cap5029, .slice (some ⟨b1159, 0, none⟩) ((List.replicate requests.length (0 : Int)).length) requests.length]), (1, Own.list (some ⟨b1159, 0, none⟩) requests.length 31 1 (encI .i64) (s5027.2.2.2.set x5116.toNat r5134))]) rfl rfl (by kernel_rfl) tv (fun _ _ _ h x => x.mono (RRequest.mono) h) (by kernel_rfl) rfl rfl (fun τ hτ a w K hS hA hF => by subst hτ <;> exact TG.pa hS hA (bS (cs := [.int .i64 x5122.by_, .int .i64 x5122.minute, .int .i64 x5122.from_, .int .i64 x5122.cut, .slice ad5131 x5122.put_.length cap5132]) T4.E64 rfl rfl rfl rfl fun q5192 K5193 hq5194 hK5195 => by
              refine TG.pack (fun K => Sl (RRequest) 5 K (some q5192) 1 ([x5122] : List Request)) (fun H le => Sl.litR (css := [[.int .i64 x5122.by_, .int .i64 x5122.minute, .int .i64 x5122.from_, .int .i64 x5122.cut, .slice ad5131 x5122.put_.length cap5132]]) (l := ([x5122] : List Request)) ⟨⟨rfl, rfl, (RRequest.mono _ _ _ _ (le.at 13 rfl) hr5130)⟩, tv⟩ hq5194 (hK5195.mono (le.at 0 rfl)) rfl) fun K5197 hl5196 => ?_
              have := hl5196.len
              refine sk1 ?_
              exact finU (f := fun q => .slice q.1 1 q.2) (G := (fun (q : Option Addr × Nat) K => Sl (RRequest) 5 K q.1 q.2 ([x5122] : List Request))) (_, _) (fun _ _ _ h x => x.mono (RRequest.mono) h) hl5196)) ?_
            rintro ⟨ad5199, cap5200⟩
            refine DC.turn (α := Option Addr × Nat × List (List Value)) (none, 0, []) (fun q => .slice q.1 ((s5027.2.2.1 ++ ([x5122] : List Request)).length) q.2.1) (fun (q : Option Addr × Nat × List (List Value)) K => Rows (RRequest) 5 K q.2.2 (s5027.2.2.1 ++ ([x5122] : List Request))) (fun q => [(8, Own.list ad5028 cap5029 3 1 (encI .i64) s5027.2.1), (7, Own.rows q.1 q.2.1 63 5 q.2.2 (s5027.2.2.1 ++ ([x5122] : List Request))), (4, Own.list (some ⟨b5119, 0, none⟩) cap1199 3 1 (encI .i64) t1889), (2, cel b1161 133 [.slice ad10 r_2.words.length cap11, .int .i64 r_2.out, .int .i64 r_2.within, .map b1132, .slice ad1129 r1120.1.swaps.length cap1130, .slice ad5030 s5027.2.2.1.length cap5031, .slice ad5028 s5027.2.1.length cap5029, .slice (some ⟨b1159, 0, none⟩) ((List.replicate requests.length (0 : Int)).length) requests.length]), (1, Own.list (some ⟨b1159, 0, none⟩) requests.length 31 1 (encI .i64) (s5027.2.2.2.set x5116.toNat r5134))]) rfl (fun _ _ _ h x => x.mono (RRequest.mono) h) (by kernel_rfl) rfl rfl (fun a w K hS hA hF => TG.pa hS hA (TG.pack (fun K => Sl (RRequest) 5 K ad5199 cap5200 ([x5122] : List Request) ∧ Rows (RRequest) 5 K css5032 s5027.2.2.1) (fun H le => ⟨(hF.1 rfl).mono (RRequest.mono) (le.at 0 rfl), hR5034.mono (RRequest.mono) (le.at 2 rfl)⟩) fun K5205 ⟨hm5206, hR5207⟩ => apR 7 (l := s5027.2.2.1) (m := ([x5122] : List Request)) T4.E64 rfl rfl rfl rfl rfl rfl hm5206 hR5207 RRequest.one rfl hk5201 fun ad5203 cap5204 css5209 hR5208 => finV (f := fun (q : Option Addr × Nat × List (List Value)) => .slice q.1 ((s5027.2.2.1 ++ ([x5122] : List Request)).length) q.2.1) (G := (fun (q : Option Addr × Nat × List (List Value)) K => Rows (RRequest) 5 K q.2.2 (s5027.2.2.1 ++ ([x5122] : List Request)))) (σ1 := fun q => [(8, Own.list ad5028 cap5029 3 1 (encI .i64) s5027.2.1), (7, Own.rows q.1 q.2.1 63 5 q.2.2 (s5027.2.2.1 ++ ([x5122] : List Request))), (4, Own.list (some ⟨b5119, 0, none⟩) cap1199 3 1 (encI .i64) t1889), (2, cel b1161 133 [.slice ad10 r_2.words.length cap11, .int .i64 r_2.out, .int .i64 r_2.within, .map b1132, .slice ad1129 r1120.1.swaps.length cap1130, .slice ad5030 s5027.2.2.1.length cap5031, .slice ad5028 s5027.2.1.length cap5029, .slice (some ⟨b1159, 0, none⟩) ((List.replicate requests.length (0 : Int)).length) requests.length]), (1, Own.list (some ⟨b1159, 0, none⟩) requests.length 31 1 (encI .i64) (s5027.2.2.2.set x5116.toNat r5134))]) (ad5203, cap5204, css5209) (fun _ _ _ h x => x.mono (RRequest.mono) h) hR5208)) ?_
            rintro ⟨ad5203, cap5204, css5209⟩
            refine DC.det (fun τ => τ = [(8, Own.list ad5028 cap5029 3 1 (encI .i64) s5027.2.1), (7, Own.rows ad5203 cap5204 63 5 css5209 (s5027.2.2.1 ++ ([x5122] : List Request))), (4, Own.list (some ⟨b5119, 0, none⟩) cap1199 3 1 (encI .i64) t1889), (2, cel b1161 133 [.slice ad10 r_2.words.length cap11, .int .i64 r_2.out, .int .i64 r_2.within, .map b1132, .slice ad1129 r1120.1.swaps.length cap1130, .slice ad5030 s5027.2.2.1.length cap5031, .slice ad5028 s5027.2.1.length cap5029, .slice (some ⟨b1159, 0, none⟩) ((List.replicate requests.length (0 : Int)).length) requests.length]), (1, Own.list (some ⟨b1159, 0, none⟩) requests.length 31 1 (encI .i64) (s5027.2.2.2.set x5116.toNat r5134))] ∨ τ = [(8, Own.list ad5028 cap5029 3 1 (encI .i64) s5027.2.1), (7, Own.rows ad5030 cap5031 63 5 css5032 s5027.2.2.1), (4, Own.list (some ⟨b5119, 0, none⟩) cap1199 3 1 (encI .i64) t1889), (2, cel b1161 133 [.slice ad10 r_2.words.length cap11, .int .i64 r_2.out, .int .i64 r_2.within, .map b1132, .slice ad1129 r1120.1.swaps.length cap1130, .slice ad5030 s5027.2.2.1.length cap5031, .slice ad5028 s5027.2.1.length cap5029, .slice (some ⟨b1159, 0, none⟩) ((List.replicate requests.length (0 : Int)).length) requests.length]), (1, Own.list (some ⟨b1159, 0, none⟩) requests.length 31 1 (encI .i64) (s5027.2.2.2.set x5116.toNat r5134))]) rfl (.inl rfl) (by kernel_rfl) ⟨.inl (.inr (rfl)), tv⟩ rfl rfl (fun τ hτ a w K hS hA hF => by rcases hτ with rfl | rfl <;> exact TG.pa hS hA (m1 rfl fin1)) ?_
            refine DC.det (fun τ => τ = [(8, Own.list ad5028 cap5029 3 1 (encI .i64) s5027.2.1), (7, Own.rows ad5203 cap5204 63 5 css5209 (s5027.2.2.1 ++ ([x5122] : List Request))), (4, Own.list (some ⟨b5119, 0, none⟩) cap1199 3 1 (encI .i64) t1889), (2, cel b1161 133 [.slice ad10 r_2.words.length cap11, .int .i64 r_2.out, .int .i64 r_2.within, .map b1132, .slice ad1129 r1120.1.swaps.length cap1130, .slice ad5030 s5027.2.2.1.length cap5031, .slice ad5028 s5027.2.1.length cap5029, .slice (some ⟨b1159, 0, none⟩) ((List.replicate requests.length (0 : Int)).length) requests.length]), (1, Own.list (some ⟨b1159, 0, none⟩) requests.length 31 1 (encI .i64) (s5027.2.2.2.set x5116.toNat r5134))] ∨ τ = [(8, Own.list ad5028 cap5029 3 1 (encI .i64) s5027.2.1), (7, Own.rows ad5030 cap5031 63 5 css5032 s5027.2.2.1), (4, Own.list (some ⟨b5119, 0, none⟩) cap1199 3 1 (encI .i64) t1889), (2, cel b1161 133 [.slice ad10 r_2.words.length cap11, .int .i64 r_2.out, .int .i64 r_2.within, .map b1132, .slice ad1129 r1120.1.swaps.length cap1130, .slice ad5030 s5027.2.2.1.length cap5031, .slice ad5028 s5027.2.1.length cap5029, .slice (some ⟨b1159, 0, none⟩) ((List.replicate requests.length (0 : Int)).length) requests.length]), (1, Own.list (some ⟨b1159, 0, none⟩) requests.length 31 1 (encI .i64) (s5027.2.2.2.set x5116.toNat r5134))]) rfl (.inl rfl) (by kernel_rfl) ⟨.inl (.inr (rfl)), tv⟩ rfl rfl (fun τ hτ a w K hS hA hF => by rcases hτ with rfl | rfl <;> exact TG.pa hS hA (nl rfl rfl fin1)) ?_
            refine DC.det (fun τ => τ = [(8, Own.list ad5028 cap5029 3 1 (encI .i64) s5027.2.1), (7, Own.rows ad5203 cap5204 63 5 css5209 (s5027.2.2.1 ++ ([x5122] : List Request))), (4, Own.list (some ⟨b5119, 0, none⟩) cap1199 3 1 (encI .i64) t1889), (2, cel b1161 133 [.slice ad10 r_2.words.length cap11, .int .i64 r_2.out, .int .i64 r_2.within, .map b1132, .slice ad1129 r1120.1.swaps.length cap1130, .slice ad5030 s5027.2.2.1.length cap5031, .slice ad5028 s5027.2.1.length cap5029, .slice (some ⟨b1159, 0, none⟩) ((List.replicate requests.length (0 : Int)).length) requests.length]), (1, Own.list (some ⟨b1159, 0, none⟩) requests.length 31 1 (encI .i64) (s5027.2.2.2.set x5116.toNat r5134))] ∨ τ = [(8, Own.list ad5028 cap5029 3 1 (encI .i64) s5027.2.1), (7, Own.rows ad5030 cap5031 63 5 css5032 s5027.2.2.1), (4, Own.list (some ⟨b5119, 0, none⟩) cap1199 3 1 (encI .i64) t1889), (2, cel b1161 133 [.slice ad10 r_2.words.length cap11, .int .i64 r_2.out, .int .i64 r_2.within, .map b1132, .slice ad1129 r1120.1.swaps.length cap1130, .slice ad5030 s5027.2.2.1.length cap5031, .slice ad5028 s5027.2.1.length cap5029, .slice (some ⟨b1159, 0, none⟩) ((List.replicate requests.length (0 : Int)).length) requests.length]), (1, Own.list (some ⟨b1159, 0, none⟩) requests.length 31 1 (encI .i64) (s5027.2.2.2.set x5116.toNat r5134))]) rfl (.inl rfl) (by kernel_rfl) ⟨.inl (.inr (rfl)), tv⟩ rfl rfl (fun τ hτ a w K hS hA hF => by rcases hτ with rfl | rfl <;> exact TG.pa hS hA (fb 6 U133 rfl rfl rfl rfl Z86 fin1)) ?_
            refine DC.det (fun τ => τ = [(8, Own.list ad5028 cap5029 3 1 (encI .i64) s5027.2.1), (7, Own.rows ad5203 cap5204 63 5 css5209 (s5027.2.2.1 ++ ([x5122] : List Request))), (4, Own.list (some ⟨b5119, 0, none⟩) cap1199 3 1 (encI .i64) t1889), (2, cel b1161 133 [.slice ad10 r_2.words.length cap11, .int .i64 r_2.out, .int .i64 r_2.within, .map b1132, .slice ad1129 r1120.1.swaps.length cap1130, .slice ad5030 s5027.2.2.1.length cap5031, .slice ad5028 s5027.2.1.length cap5029, .slice (some ⟨b1159, 0, none⟩) ((List.replicate requests.length (0 : Int)).length) requests.length]), (1, Own.list (some ⟨b1159, 0, none⟩) requests.length 31 1 (encI .i64) (s5027.2.2.2.set x5116.toNat r5134))] ∨ τ = [(8, Own.list ad5028 cap5029 3 1 (encI .i64) s5027.2.1), (7, Own.rows ad5030 cap5031 63 5 css5032 s5027.2.2.1), (4, Own.list (some ⟨b5119, 0, none⟩) cap1199 3 1 (encI .i64) t1889), (2, cel b1161 133 [.slice ad10 r_2.words.length cap11, .int .i64 r_2.out, .int .i64 r_2.within, .map b1132, .slice ad1129 r1120.1.swaps.length cap1130, .slice ad5030 s5027.2.2.1.length cap5031, .slice ad5028 s5027.2.1.length cap5029, .slice (some ⟨b1159, 0, none⟩) ((List.replicate requests.length (0 : Int)).length) requests.length]), (1, Own.list (some ⟨b1159, 0, none⟩) requests.length 31 1 (encI .i64) (s5027.2.2.2.set x5116.toNat r5134))]) rfl (.inl rfl) (by kernel_rfl) ⟨.inl (.inr (rfl)), tv⟩ rfl rfl (fun τ hτ a w K hS hA hF => by rcases hτ with rfl | rfl <;> exact TG.pa hS hA (ld G86 rfl rfl (((sO 2 rfl).drop 6).take 1) rfl fin1)) ?_
            refine DC.det (fun τ => τ = [(8, Own.list ad5028 cap5029 3 1 (encI .i64) s5027.2.1), (7, Own.rows ad5203 cap5204 63 5 css5209 (s5027.2.2.1 ++ ([x5122] : List Request))), (4, Own.list (some ⟨b5119, 0, none⟩) cap1199 3 1 (encI .i64) t1889), (2, cel b1161 133 [.slice ad10 r_2.words.length cap11, .int .i64 r_2.out, .int .i64 r_2.within, .map b1132, .slice ad1129 r1120.1.swaps.length cap1130, .slice ad5030 s5027.2.2.1.length cap5031, .slice ad5028 s5027.2.1.length cap5029, .slice (some ⟨b1159, 0, none⟩) ((List.replicate requests.length (0 : Int)).length) requests.length]), (1, Own.list (some ⟨b1159, 0, none⟩) requests.length 31 1 (encI .i64) (s5027.2.2.2.set x5116.toNat r5134))] ∨ τ = [(8, Own.list ad5028 cap5029 3 1 (encI .i64) s5027.2.1), (7, Own.rows ad5030 cap5031 63 5 css5032 s5027.2.2.1), (4, Own.list (some ⟨b5119, 0, none⟩) cap1199 3 1 (encI .i64) t1889), (2, cel b1161 133 [.slice ad10 r_2.words.length cap11, .int .i64 r_2.out, .int .i64 r_2.within, .map b1132, .slice ad1129 r1120.1.swaps.length cap1130, .slice ad5030 s5027.2.2.1.length cap5031, .slice ad5028 s5027.2.1.length cap5029, .slice (some ⟨b1159, 0, none⟩) ((List.replicate requests.length (0 : Int)).length) requests.length]), (1, Own.list (some ⟨b1159, 0, none⟩) requests.length 31 1 (encI .i64) (s5027.2.2.2.set x5116.toNat r5134))]) rfl (.inl rfl) (by kernel_rfl) ⟨.inl (.inr (rfl)), tv⟩ rfl rfl (fun τ hτ a w K hS hA hF => by rcases hτ with rfl | rfl <;> exact TG.pa hS hA (m1 rfl fin1)) ?_
            refine DC.und (α := Option Addr × Nat) (none, 0) (fun q => .slice q.1 1 q.2) (fun (q : Option Addr × Nat) K => Sl (Flat (encI .i64)) 1 K q.1 q.2 ([x5116] : List Int)) (fun τ => τ = [(8, Own.list ad5028 cap5029 3 1 (encI .i64) s5027.2.1), (7, Own.rows ad5203 cap5204 63 5 css5209 (s5027.2.2.1 ++ ([x5122] : List Request))), (4, Own.list (some ⟨b5119, 0, none⟩) cap1199 3 1 (encI .i64) t1889), (2, cel b1161 133 [.slice ad10 r_2.words.length cap11, .int .i64 r_2.out, .int .i64 r_2.within, .map b1132, .slice ad1129 r1120.1.swaps.length cap1130, .slice ad5030 s5027.2.2.1.length cap5031, .slice ad5028 s5027.2.1.length cap5029, .slice (some ⟨b1159, 0, none⟩) ((List.replicate requests.length (0 : Int)).length) requests.length]), (1, Own.list (some ⟨b1159, 0, none⟩) requests.length 31 1 (encI .i64) (s5027.2.2.2.set x5116.toNat r5134))] ∨ τ = [(8, Own.list ad5028 cap5029 3 1 (encI .i64) s5027.2.1), (7, Own.rows ad5030 cap5031 63 5 css5032 s5027.2.2.1), (4, Own.list (some ⟨b5119, 0, none⟩) cap1199 3 1 (encI .i64) t1889), (2, cel b1161 133 [.slice ad10 r_2.words.length cap11, .int .i64 r_2.out, .int .i64 r_2.within, .map b1132, .slice ad1129 r1120.1.swaps.length cap1130, .slice ad5030 s5027.2.2.1.length cap5031, .slice ad5028 s5027.2.1.length cap5029, .slice (some ⟨b1159, 0, none⟩) ((List.replicate requests.length (0 : Int)).length) requests.length]), (1, Own.list (some ⟨b1159, 0, none⟩) requests.length 31 1 (encI .i64) (s5027.2.2.2.set x5116.toNat r5134))]) rfl (.inl rfl) (by kernel_rfl) ⟨.inl (.inr (rfl)), tv⟩ (fun _ _ _ h x => x.mono (Flat.mono _) h) (by kernel_rfl) rfl rfl (fun τ hτ a w K hS hA hF => by rcases hτ with rfl | rfl <;> exact TG.pa hS hA (bS (cs := [.int .i64 x5116]) T4.E86 rfl rfl rfl rfl fun q5211 K5212 hq5213 hK5214 => by
              have hl5215 : Sl (Flat (encI .i64)) 1 K5212 (some q5211) 1 ([x5116] : List Int) := Sl.litR (css := [[.int .i64 x5116]]) (l := ([x5116] : List Int)) ⟨⟨rfl, rfl, rfl⟩, tv⟩ hq5213 hK5214 rfl
              have := hl5215.len
              exact finU (f := fun q => .slice q.1 1 q.2) (G := (fun (q : Option Addr × Nat) K => Sl (Flat (encI .i64)) 1 K q.1 q.2 ([x5116] : List Int))) (_, _) (fun _ _ _ h x => x.mono (Flat.mono _) h) hl5215)) ?_
            rintro ⟨ad5217, cap5218⟩
            refine DC.turn (α := Option Addr × Nat) (none, 0) (fun q => .slice q.1 ((s5027.2.1 ++ ([x5116] : List Int)).length) q.2) (fun _ _ => True) (fun q => [(8, Own.list q.1 q.2 3 1 (encI .i64) (s5027.2.1 ++ ([x5116] : List Int))), (7, Own.rows ad5203 cap5204 63 5 css5209 (s5027.2.2.1 ++ ([x5122] : List Request))), (4, Own.list (some ⟨b5119, 0, none⟩) cap1199 3 1 (encI .i64) t1889), (2, cel b1161 133 [.slice ad10 r_2.words.length cap11, .int .i64 r_2.out, .int .i64 r_2.within, .map b1132, .slice ad1129 r1120.1.swaps.length cap1130, .slice ad5030 s5027.2.2.1.length cap5031, .slice ad5028 s5027.2.1.length cap5029, .slice (some ⟨b1159, 0, none⟩) ((List.replicate requests.length (0 : Int)).length) requests.length]), (1, Own.list (some ⟨b1159, 0, none⟩) requests.length 31 1 (encI .i64) (s5027.2.2.2.set x5116.toNat r5134))]) rfl (fun _ _ _ _ h => h) (by kernel_rfl) rfl rfl (fun a w K hS hA hF => TG.pa hS hA (apS 8 (enc := encI .i64) (l := s5027.2.1) (m := ([x5116] : List Int)) T4.E86 rfl rfl rfl rfl rfl rfl (hF.1 rfl) 0 rfl (fun _ => rfl) (fun _ => rfl) rfl hk5219 fun ad5221 cap5222 => finT (f := fun q => .slice q.1 ((s5027.2.1 ++ ([x5116] : List Int)).length) q.2) (G := fun _ _ => True) (σ1 := fun q => [(8, Own.list q.1 q.2 3 1 (encI .i64) (s5027.2.1 ++ ([x5116] : List Int))), (7, Own.rows ad5203 cap5204 63 5 css5209 (s5027.2.2.1 ++ ([x5122] : List Request))), (4, Own.list (some ⟨b5119, 0, none⟩) cap1199 3 1 (encI .i64) t1889), (2, cel b1161 133 [.slice ad10 r_2.words.length cap11, .int .i64 r_2.out, .int .i64 r_2.within, .map b1132, .slice ad1129 r1120.1.swaps.length cap1130, .slice ad5030 s5027.2.2.1.length cap5031, .slice ad5028 s5027.2.1.length cap5029, .slice (some ⟨b1159, 0, none⟩) ((List.replicate requests.length (0 : Int)).length) requests.length]), (1, Own.list (some ⟨b1159, 0, none⟩) requests.length 31 1 (encI .i64) (s5027.2.2.2.set x5116.toNat r5134))]) (_, _) tv)) ?_
            rintro ⟨ad5221, cap5222⟩
            refine DC.nil fun K5223 hF => ?_
            obtain ⟨_, hu5216, hu5210, hu5198, _⟩ := hF
            have := hu5198.len
            have := hu5216.len
            refine nl rfl rfl (fb 5 U133 rfl rfl rfl rfl Z64 (sto 2 (cs := [.slice ad5203 ((s5027.2.2.1 ++ ([x5122] : List Request)).length) cap5204]) Z64 rfl rfl rfl rfl rfl rfl rfl (nl rfl rfl (fb 6 U133 rfl rfl rfl rfl Z86 (sto 2 (cs := [.slice ad5221 ((s5027.2.1 ++ ([x5116] : List Int)).length) cap5222]) Z86 rfl rfl rfl rfl rfl rfl rfl (on ?_))))))
            cases hr5220
            intro a w hS hA
            exact ⟨ad5221, cap5222, ad5203, cap5204, css5209, K5223, hS, hA.cut ⟨rfl, rfl, rfl, rfl, rfl, tv⟩, hu5210⟩
           ·have hr5224 := if_n hc5190 hx5181
            refine sk ?_
            cases hr5224
            intro a w hS hA
            exact ⟨ad5028, cap5029, ad5030, cap5031, css5032, K5033, hS.selH [1, 0, 1, 2, 3, 4, 5, 6, 7, 8, 9, 10, 11] rfl, hA.cut ⟨rfl, rfl, rfl, rfl, rfl, tv⟩, hR5034⟩
          ·rintro a w ⟨ad5183, cap5184, ad5185, cap5186, css5187, K5188, hS, hA, hR5189⟩
           refine TG.ap ?_ hS hA
           refine rg (adI rfl rfl rfl (by omega) (m1 rfl (on ?_)))
           cases hr5182
           intro a w hS hA
           exact ⟨_, hz5037, ad5183, cap5184, ad5185, cap5186, css5187, K5188, hS.selH [0, 3, 4, 5, 6, 7, 8, 9, 10, 11, 12] rfl, hA.cut ⟨rfl, rfl, rfl, rfl, rfl, tv⟩, hR5189, hln5141⟩
         ·have hr5225 := if_n hc5042 hr5036
          refine xt rfl ?_
          cases hr5225
          obtain rfl := Fin.out hz5037
          intro a w hS hA
          exact ⟨ad5028, cap5029, ad5030, cap5031, css5032, K5033, hS, hA.cut ⟨rfl, tv⟩, hR5034, hln5035⟩
       ·rintro a w ⟨ad5019, cap5020, ad5021, cap5022, css5023, K5024, hS, hA, hR5025, hln5026⟩
        refine TG.ap ?_ hS hA
        refine sq (rg (m1 rfl (a1 rfl (a1 rfl (on (rt_ (TG.del 4 (TG.as 2 (z := cel b1161 133 [.slice ad10 r_2.words.length cap11, .int .i64 r_2.out, .int .i64 r_2.within, .map b1132, .slice ad1129 r1120.1.swaps.length cap1130, .slice ad5021 e5016.2.1.length cap5022, .slice ad5019 e5016.1.length cap5020, .slice (some ⟨b1159, 0, none⟩) e5016.2.2.length requests.length]) rfl (by rw [hln5026]) ?_))))))))
        cases hr5018
        intro a w hS hA
        refine ret2 hA rfl rfl rfl ?_
        exact ⟨_, rfl, .inr (⟨_, rfl, b1161, ad5019, cap5020, ad5021, cap5022, css5023, K5024, ad10, cap11, H, .map b1132, K1123, ad1129, cap1130, K1123, (some ⟨b1159, 0, none⟩), requests.length, rfl, hS.selH [0, 10, 3, 3, 7, 8, 9, 10] rfl, hR5025, hl12, hm1128, hl1131⟩)⟩
 ·rintro a w v hA (⟨t1088, rfl, rfl, hS⟩ | ⟨t1089, rfl, b1090, ad1091, cap1092, ad1093, cap1094, css1095, K1096, ad1098, cap1099, K1100, mp1102, K1103, ad1105, cap1106, K1107, ad1109, cap1110, rfl, hS, hR1097, hl1101, hm1104, hl1108⟩)
  ·refine putK rfl hA hS (m1 rfl (ex rfl rfl rfl (ex rfl rfl rfl (va (cs := [.pointer none]) Tryz.zeroValue129 Z129 rfl rfl rfl rfl rfl rfl rfl rfl fun q5226 K5227 hK5228 => (a1 rfl (on (sq (sq (rg (m1 rfl (neI rfl rfl rfl ?_)))))))))))
   refine on ?_
   refine ci rfl (fun hc5232 => ?_) (fun hc5232 => ?_)
   ·have hr5233 := if_p hc5232 hr1087
    refine sq (rg (m1 rfl (a1 rfl (a1 rfl (on (rt_ ?_))))))
    cases hr5233
    intro a w hS hA
    refine ret2 hA rfl rfl rfl ?_
    exact ⟨⟨_, _, rfl, (Sl.nil _ _ _ _ _ (by decide))⟩, hS.ext⟩
   ·have hr5234 := if_n hc5232 hr1087
    refine sk (sq (rg (ld G129 rfl rfl (sS 0 rfl hK5228) rfl ?_)))
    cases hr5234
  ·have := hl1101.len
   have := hl1108.len
   refine putK rfl hA hS (m1 rfl (ex rfl rfl rfl (ex rfl rfl rfl (va (cs := [.pointer (some (⟨b1090, 0, none⟩))]) Tryz.zeroValue129 Z129 rfl rfl rfl rfl rfl rfl rfl rfl fun q5235 K5236 hK5237 => (a1 rfl (on (sq (sq (rg (m1 rfl (neI rfl rfl rfl ?_)))))))))))
   refine on (cF rfl ((rfl : decide ((0 : Int) ≠ (0 : Int)) = false)) (sk (sq (rg (ld G129 rfl rfl (sS 0 rfl hK5237) rfl (nl rfl rfl (fb 6 U133 rfl rfl rfl rfl Z86 (ld G86 rfl rfl (((sO 2 rfl).drop 6).take 1) rfl (fn rfl rfl rfl ?_)))))))))
   obtain ⟨l5238, hx5239, hr5240⟩ := bd_some hr1087
   have hln5241 : l5238.length = t1089.1.length := (sortO_len hx5239)
   refine srt1 8 (enc := encI .i64) (V := Vi .i64) (V' := Vi .i64) (Value.int .i64) (fun _ => rfl) (fun _ => rfl) Tryz.srt64 C64 rfl rfl rfl rfl rfl rfl (fun H le => ⟨65, [], [.pointer (some q19)], rfl, C65, fun w_ K_ args_ v_ hK hw hs => by obtain ⟨u0_, u1_, x0_, x1_, r_, rfl, h0_, h1_, hx, rfl⟩ := hs; cases h0_; cases h1_; exact w65 (H := K_) hw  x0_ x1_ (f0_ := requests) (hK21.mono ((le.at 5 rfl).trans hK)) (h_requests.mono (RRequest.mono) ((le.at 8 rfl).trans hK)) hx⟩) (fun _ _ => rfl) (fun _ _ => rfl) hx5239 (on (sq (rg (al 9 (cs := [.slice none 0 0]) Tryz.zeroValue91 rfl rfl fun b5242 => (on (sq (rg (al 10 (cs := [.int .i64 0]) Tryz.zeroValue3 rfl rfl fun b5243 => (sto 10 (cs := [.int .i64 0]) Z3 rfl rfl rfl rfl rfl rfl rfl (on (sq ?_)))))))))))
   refine rg (fn rfl rfl rfl (a1 rfl (on (sq (sq (rg (ld G129 rfl rfl (sS 0 rfl hK5237) rfl (nl rfl rfl (fb 6 U133 rfl rfl rfl rfl Z86 (ld G86 rfl rfl (((sO 2 rfl).drop 6).take 1) rfl (TG.len 8 rfl fun _ => ?_)))))))))))
   refine lnL U86 rfl rfl (m1 rfl (on (TG.nilRow 13 98 3 ?_)))
   have hR5455 : Rows (RSegment) 3 H [] ([] : List Segment) := tv
   refine TG.as 13 (z := Own.rows none 0 98 3 [] ([] : List Segment)) rfl rfl ?_
   obtain ⟨e5842, hl5843, hr5844⟩ := bd_some hr5240
   refine jn (fun a w => ∃ (ad5845 : Option Addr) (cap5846 : Nat) (css5847 : List (List Value)) (K5848 : Hp), St M W H [K5848, K5236, K1096, K1100, K1103, K1107, K20, K17, K14, H] [(13, Own.rows ad5845 cap5846 98 3 css5847 e5842.2), (10, cel b5243 3 [.int .i64 e5842.1]), (9, cel b5242 91 [.slice ad5845 e5842.2.length cap5846]), (8, Own.list ad1091 cap1092 3 1 (encI .i64) l5238), (7, Own.rows ad1093 cap1094 63 5 css1095 t1089.2.1), (2, cel b1090 133 [.slice ad1098 t1089.2.2.1.length cap1099, .int .i64 r_2.out, .int .i64 r_2.within, mp1102, .slice ad1105 t1089.2.2.2.2.1.length cap1106, .slice ad1093 t1089.2.1.length cap1094, .slice ad1091 t1089.1.length cap1092, .slice ad1109 t1089.2.2.2.2.2.length cap1110]), (1, Own.list ad1109 cap1110 31 1 (encI .i64) t1089.2.2.2.2.2)] w ∧ Has [] 79 a [(6, .pointer (some q16)), (12, .pointer (some (⟨b5242, 0, none⟩))), (14, .func (.func 67) [].toArray [.pointer (some (⟨b5243, 0, none⟩)), .pointer (some (⟨b5242, 0, none⟩)), .pointer (some q5235)].toArray)] ∧ Rows (RSegment) 3 K5848 css5847 e5842.2) ?_ ?_
   ·refine bk ?_
    refine lp hl5843 (fun s5850 a w => ∃ (ad5851 : Option Addr) (cap5852 : Nat) (css5853 : List (List Value)) (K5854 : Hp), St M W H [K5854, K5236, K1096, K1100, K1103, K1107, K20, K17, K14, H] [(13, Own.rows ad5851 cap5852 98 3 css5853 s5850.2.2), (10, cel b5243 3 [.int .i64 s5850.2.1]), (9, cel b5242 91 [.slice ad5851 s5850.2.2.length cap5852]), (8, Own.list ad1091 cap1092 3 1 (encI .i64) l5238), (7, Own.rows ad1093 cap1094 63 5 css1095 t1089.2.1), (2, cel b1090 133 [.slice ad1098 t1089.2.2.1.length cap1099, .int .i64 r_2.out, .int .i64 r_2.within, mp1102, .slice ad1105 t1089.2.2.2.2.1.length cap1106, .slice ad1093 t1089.2.1.length cap1094, .slice ad1091 t1089.1.length cap1092, .slice ad1109 t1089.2.2.2.2.2.length cap1110]), (1, Own.list ad1109 cap1110 31 1 (encI .i64) t1089.2.2.2.2.2)] w ∧ Has [] 79 a [(6, .pointer (some q16)), (7, .pointer (some q19)), (10, .pointer (some q5235)), (12, .pointer (some (⟨b5242, 0, none⟩))), (13, .pointer (some (⟨b5243, 0, none⟩))), (14, .func (.func 67) [].toArray [.pointer (some (⟨b5243, 0, none⟩)), .pointer (some (⟨b5242, 0, none⟩)), .pointer (some q5235)].toArray), (39, .slice ad1091 t1089.1.length cap1092), (40, .int .i64 (t1089.1.length : Int)), (41, .int .i64 (s5850.1 : Int))] ∧ Rows (RSegment) 3 K5854 css5853 s5850.2.2) ?_ ?_
    ·intro a w hS hA
     exact ⟨none, 0, [], H, hS.selH [8, 0, 1, 2, 3, 4, 5, 6, 7, 8] rfl, hA.cut ⟨rfl, rfl, rfl, rfl, rfl, rfl, rfl, rfl, rfl, tv⟩, hR5455⟩
    ·rintro j s5850 y5858 hr5856 hz5857 a w ⟨ad5851, cap5852, css5853, K5854, hS, hA, hR5855⟩
     refine TG.ap ?_ hS hA
     unfold m42_10 at hr5856
     refine sq (rg (ltI rfl rfl rfl (on (sq ?_))))
     refine ci rfl (fun hc5862 => ?_) (fun hc5862 => ?_)
     ·have hr5863 := if_p hc5862 hr5856
      refine sk (sq (bk (sq (rg ?_))))
      obtain ⟨x5982, hx5983, hr5984⟩ := bd_some hr5863
      refine TG.addr 8 rfl (lt_of0 hx5983) fun b5985 h => ?_; subst h
      refine iaP U86 Z3 rfl rfl rfl rfl (Nat.lt_of_lt_of_eq (lt_of hx5983) hln5241) (ld G3 rfl rfl (sE 8 rfl (fun _ => rfl) hx5983) rfl (a1 rfl (on (sq (rg (ld G64 rfl rfl (sS 6 rfl hK21) rfl (m1 rfl ?_)))))))
      obtain ⟨hk5986, hr5987⟩ := chk_some hr5984
      obtain ⟨x5988, hx5989, hr5990⟩ := bd_some hr5987
      obtain ⟨p5991, rfl⟩ := h_requests.adr hx5989
      obtain ⟨cs5992, hcs5993, hq5994, hr5995⟩ := h_requests.at hx5989
      have hr5996 := hr5995
      obtain ⟨ad5997, cap5998, rfl, hl5999⟩ := hr5995
      have := hl5999.len
      refine iaP U64 Z63 rfl rfl rfl (by omega) (lt_of hx5989) (ldA G63 Z63 rfl rfl (sS 9 rfl hq5994) rfl (va (cs := [.int .i64 x5988.by_, .int .i64 x5988.minute, .int .i64 x5988.from_, .int .i64 x5988.cut, .slice ad5997 x5988.put_.length cap5998]) Tryz.zeroValue63 Z63 rfl rfl rfl rfl rfl rfl rfl rfl fun q6000 K6001 hK6002 => (on (sq (rg (m1 rfl (fb 2 U63 rfl rfl rfl rfl Z3 (ld G3 rfl rfl (((sS 0 rfl hK6002).drop 2).take 1) rfl ?_))))))))
      obtain ⟨t6049, hx6050, hr6051⟩ := bd_some hr5990
      refine clI C67 Tryz.func67 rfl Tryz.ntmps67 rfl rfl rfl rfl (fun v w => (∃ (ad6052 : Option Addr) (cap6053 : Nat) (css6054 : List (List Value)) (K6055 : Hp), v = .tuple #[] ∧ St M W H [K6055, K6001, K5854, K5236, K1096, K1100, K1103, K1107, K20, K17, K14, H] [(13, Own.rows ad6052 cap6053 98 3 css6054 t6049), (10, cel b5243 3 [.int .i64 s5850.2.1]), (9, cel b5242 91 [.slice ad6052 t6049.length cap6053]), (8, Own.list (some ⟨b5985, 0, none⟩) cap1092 3 1 (encI .i64) l5238), (7, Own.rows ad1093 cap1094 63 5 css1095 t1089.2.1), (2, cel b1090 133 [.slice ad1098 t1089.2.2.1.length cap1099, .int .i64 r_2.out, .int .i64 r_2.within, mp1102, .slice ad1105 t1089.2.2.2.2.1.length cap1106, .slice ad1093 t1089.2.1.length cap1094, .slice (some ⟨b5985, 0, none⟩) t1089.1.length cap1092, .slice ad1109 t1089.2.2.2.2.2.length cap1110]), (1, Own.list ad1109 cap1110 31 1 (encI .i64) t1089.2.2.2.2.2)] w ∧ Rows (RSegment) 3 K6055 css6054 t6049)) ?_ ?_
      ·refine sq (rg (ld G3 rfl rfl (sO 10 rfl) rfl (m1 rfl (ltI rfl rfl rfl (on ?_)))))
       obtain ⟨t6097, hx6098, hr6099⟩ := bd_some hx6050
       refine jn (fun a w => ∃ (ad6100 : Option Addr) (cap6101 : Nat) (css6102 : List (List Value)) (K6103 : Hp), St M W H [K6103, K6001, K5854, K5236, K1096, K1100, K1103, K1107, K20, K17, K14, H] [(13, Own.rows ad6100 cap6101 98 3 css6102 t6097), (10, cel b5243 3 [.int .i64 s5850.2.1]), (9, cel b5242 91 [.slice ad6100 t6097.length cap6101]), (8, Own.list (some ⟨b5985, 0, none⟩) cap1092 3 1 (encI .i64) l5238), (7, Own.rows ad1093 cap1094 63 5 css1095 t1089.2.1), (2, cel b1090 133 [.slice ad1098 t1089.2.2.1.length cap1099, .int .i64 r_2.out, .int .i64 r_2.within, mp1102, .slice ad1105 t1089.2.2.2.2.1.length cap1106, .slice ad1093 t1089.2.1.length cap1094, .slice (some ⟨b5985, 0, none⟩) t1089.1.length cap1092, .slice ad1109 t1089.2.2.2.2.2.length cap1110]), (1, Own.list ad1109 cap1110 31 1 (encI .i64) t1089.2.2.2.2.2)] w ∧ Has [] 26 a [] ∧ Rows (RSegment) 3 K6103 css6102 t6097) ?_ ?_
       ·refine ci rfl (fun hc6105 => ?_) (fun hc6105 => ?_)
        ·have hr6106 := if_p hc6105 hx6098
         obtain ⟨r6107, hx6108, hr6109⟩ := bd_some hr6106
         refine drG 17 mixed (by kernel_rfl) rfl (dt rfl (ld G91 rfl rfl (sO 9 rfl) rfl fin1) (dt rfl (ld G129 rfl rfl (sS 3 rfl hK5237) rfl fin1) (dt rfl (nl rfl rfl fin1) (dt rfl (fb 0 U133 rfl rfl rfl rfl Z56 fin1) (dt rfl (ldA G56 Z56 rfl rfl ((sO 2 rfl).take 3) rfl fin1) (dt rfl (ld G3 rfl rfl (sO 10 rfl) rfl fin1) (dt rfl (m1 rfl fin1) ?_)))))))
         refine DF.und (α := Option Addr × Nat) (none, 0) (fun q => .slice q.1 r6107.length q.2) (fun (q : Option Addr × Nat) K => Sl (Flat encS) 1 K q.1 q.2 r6107) (fun _ _ _ h x => x.mono (Flat.mono _) h) (by kernel_rfl) rfl (fun a w K hS hA hF => TG.pa hS hA (clK C68 rfl rfl rfl rfl (fun w H hH le => w68 hH (⟨t1089.2.2.1, r_2.out, r_2.within⟩ : Report) ⟨_, _, rfl, (hl1101.mono (Flat.mono _) (le.at 5 rfl))⟩ s5850.2.1 x5988.from_ hx6108) (by
           rintro v_ K6110 ⟨ad6111, cap6112, rfl, hl6113⟩
           exact finU (f := fun q => .slice q.1 r6107.length q.2) (G := (fun (q : Option Addr × Nat) K => Sl (Flat encS) 1 K q.1 q.2 r6107)) (_, _) (fun _ _ _ h x => x.mono (Flat.mono _) h) hl6113))) ?_
         rintro ⟨ad6115, cap6116⟩
         refine dt rfl (ld G129 rfl rfl (sS 3 rfl hK5237) rfl fin1) (dt rfl (nl rfl rfl fin1) (dt rfl (fb 0 U133 rfl rfl rfl rfl Z56 fin1) (dt rfl (ldA G56 Z56 rfl rfl ((sO 2 rfl).take 3) rfl fin1) (dt rfl (ld G3 rfl rfl (sO 10 rfl) rfl fin1) (dt rfl (m1 rfl fin1) ?_)))))
         refine DF.und (α := Option Addr × Nat) (none, 0) (fun q => .slice q.1 r6107.length q.2) (fun (q : Option Addr × Nat) K => Sl (Flat encS) 1 K q.1 q.2 r6107) (fun _ _ _ h x => x.mono (Flat.mono _) h) (by kernel_rfl) rfl (fun a w K hS hA hF => TG.pa hS hA (clK C68 rfl rfl rfl rfl (fun w H hH le => w68 hH (⟨t1089.2.2.1, r_2.out, r_2.within⟩ : Report) ⟨_, _, rfl, (hl1101.mono (Flat.mono _) (le.at 5 rfl))⟩ s5850.2.1 x5988.from_ hx6108) (by
           rintro v_ K6117 ⟨ad6118, cap6119, rfl, hl6120⟩
           exact finU (f := fun q => .slice q.1 r6107.length q.2) (G := (fun (q : Option Addr × Nat) K => Sl (Flat encS) 1 K q.1 q.2 r6107)) (_, _) (fun _ _ _ h x => x.mono (Flat.mono _) h) hl6120))) ?_
         rintro ⟨ad6122, cap6123⟩
         refine DF.und () (fun _ => .agg [.slice ad6115 r6107.length cap6116, .slice ad6122 r6107.length cap6123, .int .i64 (-1)].toArray) (fun _ K => Sl (Flat encS) 1 K ad6115 cap6116 r6107 ∧ Sl (Flat encS) 1 K ad6122 cap6123 r6107) (fun _ _ _ h x => ⟨x.1.mono (Flat.mono _) h, x.2.mono (Flat.mono _) h⟩) (by kernel_rfl) rfl (fun a w K hS hA hF => TG.pa hS hA (bu (cs := [.slice ad6115 r6107.length cap6116, .slice ad6122 r6107.length cap6123, .int .i64 (-1)]) T4.B98 rfl rfl rfl (finF (f := fun _ => .agg [.slice ad6115 r6107.length cap6116, .slice ad6122 r6107.length cap6123, .int .i64 (-1)].toArray) (G := fun _ K => Sl (Flat encS) 1 K ad6115 cap6116 r6107 ∧ Sl (Flat encS) 1 K ad6122 cap6123 r6107) () ⟨(hF.2.1 rfl), (hF.1 rfl)⟩))) fun _ => ?_
         refine DF.und (α := Option Addr × Nat) (none, 0) (fun q => .slice q.1 1 q.2) (fun (q : Option Addr × Nat) K => Sl (RSegment) 3 K q.1 q.2 ([(⟨r6107, r6107, (-1)⟩ : Segment)] : List Segment)) (fun _ _ _ h x => x.mono (RSegment.mono) h) (by kernel_rfl) rfl (fun a w K hS hA hF => TG.pa hS hA (bS (cs := [.slice ad6115 r6107.length cap6116, .slice ad6122 r6107.length cap6123, .int .i64 (-1)]) T4.E91 rfl rfl rfl rfl fun q6125 K6126 hq6127 hK6128 => by
           refine TG.pack (fun K => Sl (RSegment) 3 K (some q6125) 1 ([(⟨r6107, r6107, (-1)⟩ : Segment)] : List Segment)) (fun H le => Sl.litR (css := [[.slice ad6115 r6107.length cap6116, .slice ad6122 r6107.length cap6123, .int .i64 (-1)]]) (l := ([(⟨r6107, r6107, (-1)⟩ : Segment)] : List Segment)) ⟨⟨rfl, rfl, ⟨_, _, _, _, rfl, ((hF.1 rfl).1.mono (Flat.mono _) (le.at 1 rfl)), ((hF.1 rfl).2.mono (Flat.mono _) (le.at 1 rfl))⟩⟩, tv⟩ hq6127 (hK6128.mono (le.at 0 rfl)) rfl) fun K6130 hl6129 => ?_
           have := hl6129.len
           refine sk1 ?_
           exact finU (f := fun q => .slice q.1 1 q.2) (G := (fun (q : Option Addr × Nat) K => Sl (RSegment) 3 K q.1 q.2 ([(⟨r6107, r6107, (-1)⟩ : Segment)] : List Segment))) (_, _) (fun _ _ _ h x => x.mono (RSegment.mono) h) hl6129)) ?_
         rintro ⟨ad6132, cap6133⟩
         refine DF.nil fun K6134 hF => ?_
         obtain ⟨hu6131, hu6124, hu6121, hu6114, _⟩ := hF
         have := hu6114.len
         have := hu6121.len
         have := hu6131.len
         obtain ⟨hk6135, hr6136⟩ := chk_some hr6109
         have := lenA s5850.2.2 ([(⟨r6107, r6107, (-1)⟩ : Segment)] : List Segment)
         refine TG.pack (fun K => Sl (RSegment) 3 K ad6132 cap6133 ([(⟨r6107, r6107, (-1)⟩ : Segment)] : List Segment) ∧ Rows (RSegment) 3 K css5853 s5850.2.2) (fun H le => ⟨hu6131.mono (RSegment.mono) (le.at 0 rfl), hR5855.mono (RSegment.mono) (le.at 2 rfl)⟩) fun K6139 ⟨hm6140, hR6141⟩ => (apR 13 (l := s5850.2.2) (m := ([(⟨r6107, r6107, (-1)⟩ : Segment)] : List Segment)) T4.E91 rfl rfl rfl rfl rfl rfl hm6140 hR6141 RSegment.one rfl hk6135 fun ad6137 cap6138 css6143 hR6142 => (sto 9 (cs := [.slice ad6137 ((s5850.2.2 ++ ([(⟨r6107, r6107, (-1)⟩ : Segment)] : List Segment)).length) cap6138]) Z91 rfl rfl rfl rfl rfl rfl rfl (on ?_)))
         cases hr6136
         intro a w hS hA
         exact ⟨ad6137, cap6138, css6143, K6139, hS.selH [0, 2, 3, 4, 5, 6, 7, 8, 9, 10, 11, 12] rfl, hA.cut tv, hR6142⟩
        ·have hr6144 := if_n hc6105 hx6098
         refine sk ?_
         cases hr6144
         intro a w hS hA
         exact ⟨ad5851, cap5852, css5853, K5854, hS.selH [1, 0, 1, 2, 3, 4, 5, 6, 7, 8, 9, 10] rfl, hA.cut tv, hR5855⟩
       ·rintro a w ⟨ad6100, cap6101, css6102, K6103, hS, hA, hR6104⟩
        refine TG.ap ?_ hS hA
        cases hr6099
        intro a w hS hA
        refine ret0 hA rfl ?_
        exact ⟨_, rfl, ⟨ad6100, cap6101, css6102, K6103, rfl, hS, hR6104⟩⟩
      ·rintro a w v hA (⟨ad6052, cap6053, css6054, K6055, rfl, hS, hR6056⟩)
       refine putK rfl hA hS (on (sq ?_))
       obtain ⟨r6145, hx6146, hr6147⟩ := bd_some hr6051
       obtain ⟨r6148, hx6149, hr6150⟩ := bd_some hr6147
       obtain ⟨r6158, hx6159, hr6160⟩ := bd_some hr6150
       refine drG 16 mixed (by kernel_rfl) rfl (dt rfl (ld G91 rfl rfl (sO 9 rfl) rfl fin1) (dt rfl (ld G129 rfl rfl (sS 4 rfl hK5237) rfl fin1) (dt rfl (nl rfl rfl fin1) (dt rfl (fb 0 U133 rfl rfl rfl rfl Z56 fin1) (dt rfl (ldA G56 Z56 rfl rfl ((sO 2 rfl).take 3) rfl fin1) (dt rfl (fb 2 U63 rfl rfl rfl rfl Z3 fin1) (dt rfl (ld G3 rfl rfl (((sS 2 rfl hK6002).drop 2).take 1) rfl fin1) (dt rfl (ldA G63 Z63 rfl rfl (sS 2 rfl hK6002) rfl fin1) (dt rfl (clS C69 rfl rfl rfl rfl (fun w H hH le => w69 hH x5988 (RRequest.mono _ _ _ _ (le.at 12 rfl) hr5996) hx6146) fin1) ?_)))))))))
       refine DF.und (α := Option Addr × Nat) (none, 0) (fun q => .slice q.1 r6148.length q.2) (fun (q : Option Addr × Nat) K => Sl (Flat encS) 1 K q.1 q.2 r6148) (fun _ _ _ h x => x.mono (Flat.mono _) h) (by kernel_rfl) rfl (fun a w K hS hA hF => TG.pa hS hA (clK C68 rfl rfl rfl rfl (fun w H hH le => w68 hH (⟨t1089.2.2.1, r_2.out, r_2.within⟩ : Report) ⟨_, _, rfl, (hl1101.mono (Flat.mono _) (le.at 6 rfl))⟩ x5988.from_ r6145 hx6149) (by
         rintro v_ K6151 ⟨ad6152, cap6153, rfl, hl6154⟩
         exact finU (f := fun q => .slice q.1 r6148.length q.2) (G := (fun (q : Option Addr × Nat) K => Sl (Flat encS) 1 K q.1 q.2 r6148)) (_, _) (fun _ _ _ h x => x.mono (Flat.mono _) h) hl6154))) ?_
       rintro ⟨ad6156, cap6157⟩
       refine dt rfl (fb 4 U63 rfl rfl rfl rfl Z24 fin1) (dt rfl (ld G24 rfl rfl ((sS 2 rfl hK6002).drop 4) rfl fin1) ?_)
       refine DF.und (α := Option Addr × Nat) (none, 0) (fun q => .slice q.1 r6158.length q.2) (fun (q : Option Addr × Nat) K => Sl (Flat encS) 1 K q.1 q.2 r6158) (fun _ _ _ h x => x.mono (Flat.mono _) h) (by kernel_rfl) rfl (fun a w K hS hA hF => TG.pa hS hA (clK C70 rfl rfl rfl rfl (fun w H hH le => w70 hH (hl5999.mono (Flat.mono _) (le.at 12 rfl)) hx6159) (by
         rintro v_ K6161 ⟨ad6162, cap6163, rfl, hl6164⟩
         exact finU (f := fun q => .slice q.1 r6158.length q.2) (G := (fun (q : Option Addr × Nat) K => Sl (Flat encS) 1 K q.1 q.2 r6158)) (_, _) (fun _ _ _ h x => x.mono (Flat.mono _) h) hl6164))) ?_
       rintro ⟨ad6166, cap6167⟩
       refine dt rfl (m1 rfl fin1) (DF.und () (fun _ => .agg [.slice ad6156 r6148.length cap6157, .slice ad6166 r6158.length cap6167, .int .i64 x5982].toArray) (fun _ K => Sl (Flat encS) 1 K ad6156 cap6157 r6148 ∧ Sl (Flat encS) 1 K ad6166 cap6167 r6158) (fun _ _ _ h x => ⟨x.1.mono (Flat.mono _) h, x.2.mono (Flat.mono _) h⟩) (by kernel_rfl) rfl (fun a w K hS hA hF => TG.pa hS hA (bu (cs := [.slice ad6156 r6148.length cap6157, .slice ad6166 r6158.length cap6167, .int .i64 x5982]) T4.B98 rfl rfl rfl (finF (f := fun _ => .agg [.slice ad6156 r6148.length cap6157, .slice ad6166 r6158.length cap6167, .int .i64 x5982].toArray) (G := fun _ K => Sl (Flat encS) 1 K ad6156 cap6157 r6148 ∧ Sl (Flat encS) 1 K ad6166 cap6167 r6158) () ⟨(hF.2.1 rfl), (hF.1 rfl)⟩))) fun _ => ?_)
       refine DF.und (α := Option Addr × Nat) (none, 0) (fun q => .slice q.1 1 q.2) (fun (q : Option Addr × Nat) K => Sl (RSegment) 3 K q.1 q.2 ([(⟨r6148, r6158, x5982⟩ : Segment)] : List Segment)) (fun _ _ _ h x => x.mono (RSegment.mono) h) (by kernel_rfl) rfl (fun a w K hS hA hF => TG.pa hS hA (bS (cs := [.slice ad6156 r6148.length cap6157, .slice ad6166 r6158.length cap6167, .int .i64 x5982]) T4.E91 rfl rfl rfl rfl fun q6169 K6170 hq6171 hK6172 => by
         refine TG.pack (fun K => Sl (RSegment) 3 K (some q6169) 1 ([(⟨r6148, r6158, x5982⟩ : Segment)] : List Segment)) (fun H le => Sl.litR (css := [[.slice ad6156 r6148.length cap6157, .slice ad6166 r6158.length cap6167, .int .i64 x5982]]) (l := ([(⟨r6148, r6158, x5982⟩ : Segment)] : List Segment)) ⟨⟨rfl, rfl, ⟨_, _, _, _, rfl, ((hF.1 rfl).1.mono (Flat.mono _) (le.at 1 rfl)), ((hF.1 rfl).2.mono (Flat.mono _) (le.at 1 rfl))⟩⟩, tv⟩ hq6171 (hK6172.mono (le.at 0 rfl)) rfl) fun K6174 hl6173 => ?_
         have := hl6173.len
         refine sk1 ?_
         exact finU (f := fun q => .slice q.1 1 q.2) (G := (fun (q : Option Addr × Nat) K => Sl (RSegment) 3 K q.1 q.2 ([(⟨r6148, r6158, x5982⟩ : Segment)] : List Segment))) (_, _) (fun _ _ _ h x => x.mono (RSegment.mono) h) hl6173)) ?_
       rintro ⟨ad6176, cap6177⟩
       refine DF.nil fun K6178 hF => ?_
       obtain ⟨hu6175, hu6168, hu6165, hu6155, _⟩ := hF
       have := hu6155.len
       have := hu6165.len
       have := hu6175.len
       obtain ⟨hk6179, hr6180⟩ := chk_some hr6160
       have := lenA t6049 ([(⟨r6148, r6158, x5982⟩ : Segment)] : List Segment)
       refine TG.pack (fun K => Sl (RSegment) 3 K ad6176 cap6177 ([(⟨r6148, r6158, x5982⟩ : Segment)] : List Segment) ∧ Rows (RSegment) 3 K css6054 t6049) (fun H le => ⟨hu6175.mono (RSegment.mono) (le.at 0 rfl), hR6056.mono (RSegment.mono) (le.at 1 rfl)⟩) fun K6183 ⟨hm6184, hR6185⟩ => (apR 13 (l := t6049) (m := ([(⟨r6148, r6158, x5982⟩ : Segment)] : List Segment)) T4.E91 rfl rfl rfl rfl rfl rfl hm6184 hR6185 RSegment.one rfl hk6179 fun ad6181 cap6182 css6187 hR6186 => (sto 9 (cs := [.slice ad6181 ((t6049 ++ ([(⟨r6148, r6158, x5982⟩ : Segment)] : List Segment)).length) cap6182]) Z91 rfl rfl rfl rfl rfl rfl rfl (on (rg (ldA G63 Z63 rfl rfl (sS 3 rfl hK6002) rfl (clS C69 rfl rfl rfl rfl (fun w H hH le => w69 hH x5988 (RRequest.mono _ _ _ _ (le.at 13 rfl) hr5996) hx6146) (sto 10 (cs := [.int .i64 r6145]) Z3 rfl rfl rfl rfl rfl rfl rfl (on (rg (adI rfl rfl rfl (by omega) (m1 rfl ?_)))))))))))
       refine on ?_
       cases hr6180
       intro a w hS hA
       exact ⟨_, hz5857, ad6181, cap6182, css6187, K6183, hS.selH [0, 5, 6, 7, 8, 9, 10, 11, 12, 13] rfl, hA.cut ⟨rfl, rfl, rfl, rfl, rfl, rfl, rfl, rfl, rfl, tv⟩, hR6186⟩
     ·have hr6188 := if_n hc5862 hr5856
      refine xt rfl ?_
      cases hr6188
      obtain rfl := Fin.out hz5857
      intro a w hS hA
      exact ⟨ad5851, cap5852, css5853, K5854, hS, hA.cut ⟨rfl, rfl, rfl, tv⟩, hR5855⟩
   ·rintro a w ⟨ad5845, cap5846, css5847, K5848, hS, hA, hR5849⟩
    refine TG.ap ?_ hS hA
    refine sq (rg (m1 rfl (fb 0 U56 rfl rfl rfl rfl Z54 (ld G54 rfl rfl ((sS 7 rfl hK18).take 1) rfl (lnL U54 rfl rfl ?_)))))
    obtain ⟨t6235, hx6236, hr6237⟩ := bd_some hr5844
    refine clI C67 Tryz.func67 rfl Tryz.ntmps67 rfl rfl rfl rfl (fun v w => (∃ (ad6238 : Option Addr) (cap6239 : Nat) (css6240 : List (List Value)) (K6241 : Hp), v = .tuple #[] ∧ St M W H [K6241, K5848, K5236, K1096, K1100, K1103, K1107, K20, K17, K14, H] [(13, Own.rows ad6238 cap6239 98 3 css6240 t6235), (10, cel b5243 3 [.int .i64 e5842.1]), (9, cel b5242 91 [.slice ad6238 t6235.length cap6239]), (8, Own.list ad1091 cap1092 3 1 (encI .i64) l5238), (7, Own.rows ad1093 cap1094 63 5 css1095 t1089.2.1), (2, cel b1090 133 [.slice ad1098 t1089.2.2.1.length cap1099, .int .i64 r_2.out, .int .i64 r_2.within, mp1102, .slice ad1105 t1089.2.2.2.2.1.length cap1106, .slice ad1093 t1089.2.1.length cap1094, .slice ad1091 t1089.1.length cap1092, .slice ad1109 t1089.2.2.2.2.2.length cap1110]), (1, Own.list ad1109 cap1110 31 1 (encI .i64) t1089.2.2.2.2.2)] w ∧ Rows (RSegment) 3 K6241 css6240 t6235)) ?_ ?_
    ·refine sq (rg (ld G3 rfl rfl (sO 10 rfl) rfl (m1 rfl (ltI rfl rfl rfl (on ?_)))))
     obtain ⟨t6283, hx6284, hr6285⟩ := bd_some hx6236
     refine jn (fun a w => ∃ (ad6286 : Option Addr) (cap6287 : Nat) (css6288 : List (List Value)) (K6289 : Hp), St M W H [K6289, K5848, K5236, K1096, K1100, K1103, K1107, K20, K17, K14, H] [(13, Own.rows ad6286 cap6287 98 3 css6288 t6283), (10, cel b5243 3 [.int .i64 e5842.1]), (9, cel b5242 91 [.slice ad6286 t6283.length cap6287]), (8, Own.list ad1091 cap1092 3 1 (encI .i64) l5238), (7, Own.rows ad1093 cap1094 63 5 css1095 t1089.2.1), (2, cel b1090 133 [.slice ad1098 t1089.2.2.1.length cap1099, .int .i64 r_2.out, .int .i64 r_2.within, mp1102, .slice ad1105 t1089.2.2.2.2.1.length cap1106, .slice ad1093 t1089.2.1.length cap1094, .slice ad1091 t1089.1.length cap1092, .slice ad1109 t1089.2.2.2.2.2.length cap1110]), (1, Own.list ad1109 cap1110 31 1 (encI .i64) t1089.2.2.2.2.2)] w ∧ Has [] 26 a [] ∧ Rows (RSegment) 3 K6289 css6288 t6283) ?_ ?_
     ·refine ci rfl (fun hc6291 => ?_) (fun hc6291 => ?_)
      ·have hr6292 := if_p hc6291 hx6284
       obtain ⟨r6293, hx6294, hr6295⟩ := bd_some hr6292
       refine drG 17 mixed (by kernel_rfl) rfl (dt rfl (ld G91 rfl rfl (sO 9 rfl) rfl fin1) (dt rfl (ld G129 rfl rfl (sS 2 rfl hK5237) rfl fin1) (dt rfl (nl rfl rfl fin1) (dt rfl (fb 0 U133 rfl rfl rfl rfl Z56 fin1) (dt rfl (ldA G56 Z56 rfl rfl ((sO 2 rfl).take 3) rfl fin1) (dt rfl (ld G3 rfl rfl (sO 10 rfl) rfl fin1) (dt rfl (m1 rfl fin1) ?_)))))))
       refine DF.und (α := Option Addr × Nat) (none, 0) (fun q => .slice q.1 r6293.length q.2) (fun (q : Option Addr × Nat) K => Sl (Flat encS) 1 K q.1 q.2 r6293) (fun _ _ _ h x => x.mono (Flat.mono _) h) (by kernel_rfl) rfl (fun a w K hS hA hF => TG.pa hS hA (clK C68 rfl rfl rfl rfl (fun w H hH le => w68 hH (⟨t1089.2.2.1, r_2.out, r_2.within⟩ : Report) ⟨_, _, rfl, (hl1101.mono (Flat.mono _) (le.at 4 rfl))⟩ e5842.1 (r_2.words.length : Int) hx6294) (by
         rintro v_ K6296 ⟨ad6297, cap6298, rfl, hl6299⟩
         exact finU (f := fun q => .slice q.1 r6293.length q.2) (G := (fun (q : Option Addr × Nat) K => Sl (Flat encS) 1 K q.1 q.2 r6293)) (_, _) (fun _ _ _ h x => x.mono (Flat.mono _) h) hl6299))) ?_
       rintro ⟨ad6301, cap6302⟩
       refine dt rfl (ld G129 rfl rfl (sS 2 rfl hK5237) rfl fin1) (dt rfl (nl rfl rfl fin1) (dt rfl (fb 0 U133 rfl rfl rfl rfl Z56 fin1) (dt rfl (ldA G56 Z56 rfl rfl ((sO 2 rfl).take 3) rfl fin1) (dt rfl (ld G3 rfl rfl (sO 10 rfl) rfl fin1) (dt rfl (m1 rfl fin1) ?_)))))
       refine DF.und (α := Option Addr × Nat) (none, 0) (fun q => .slice q.1 r6293.length q.2) (fun (q : Option Addr × Nat) K => Sl (Flat encS) 1 K q.1 q.2 r6293) (fun _ _ _ h x => x.mono (Flat.mono _) h) (by kernel_rfl) rfl (fun a w K hS hA hF => TG.pa hS hA (clK C68 rfl rfl rfl rfl (fun w H hH le => w68 hH (⟨t1089.2.2.1, r_2.out, r_2.within⟩ : Report) ⟨_, _, rfl, (hl1101.mono (Flat.mono _) (le.at 4 rfl))⟩ e5842.1 (r_2.words.length : Int) hx6294) (by
         rintro v_ K6303 ⟨ad6304, cap6305, rfl, hl6306⟩
         exact finU (f := fun q => .slice q.1 r6293.length q.2) (G := (fun (q : Option Addr × Nat) K => Sl (Flat encS) 1 K q.1 q.2 r6293)) (_, _) (fun _ _ _ h x => x.mono (Flat.mono _) h) hl6306))) ?_
       rintro ⟨ad6308, cap6309⟩
       refine DF.und () (fun _ => .agg [.slice ad6301 r6293.length cap6302, .slice ad6308 r6293.length cap6309, .int .i64 (-1)].toArray) (fun _ K => Sl (Flat encS) 1 K ad6301 cap6302 r6293 ∧ Sl (Flat encS) 1 K ad6308 cap6309 r6293) (fun _ _ _ h x => ⟨x.1.mono (Flat.mono _) h, x.2.mono (Flat.mono _) h⟩) (by kernel_rfl) rfl (fun a w K hS hA hF => TG.pa hS hA (bu (cs := [.slice ad6301 r6293.length cap6302, .slice ad6308 r6293.length cap6309, .int .i64 (-1)]) T4.B98 rfl rfl rfl (finF (f := fun _ => .agg [.slice ad6301 r6293.length cap6302, .slice ad6308 r6293.length cap6309, .int .i64 (-1)].toArray) (G := fun _ K => Sl (Flat encS) 1 K ad6301 cap6302 r6293 ∧ Sl (Flat encS) 1 K ad6308 cap6309 r6293) () ⟨(hF.2.1 rfl), (hF.1 rfl)⟩))) fun _ => ?_
       refine DF.und (α := Option Addr × Nat) (none, 0) (fun q => .slice q.1 1 q.2) (fun (q : Option Addr × Nat) K => Sl (RSegment) 3 K q.1 q.2 ([(⟨r6293, r6293, (-1)⟩ : Segment)] : List Segment)) (fun _ _ _ h x => x.mono (RSegment.mono) h) (by kernel_rfl) rfl (fun a w K hS hA hF => TG.pa hS hA (bS (cs := [.slice ad6301 r6293.length cap6302, .slice ad6308 r6293.length cap6309, .int .i64 (-1)]) T4.E91 rfl rfl rfl rfl fun q6311 K6312 hq6313 hK6314 => by
         refine TG.pack (fun K => Sl (RSegment) 3 K (some q6311) 1 ([(⟨r6293, r6293, (-1)⟩ : Segment)] : List Segment)) (fun H le => Sl.litR (css := [[.slice ad6301 r6293.length cap6302, .slice ad6308 r6293.length cap6309, .int .i64 (-1)]]) (l := ([(⟨r6293, r6293, (-1)⟩ : Segment)] : List Segment)) ⟨⟨rfl, rfl, ⟨_, _, _, _, rfl, ((hF.1 rfl).1.mono (Flat.mono _) (le.at 1 rfl)), ((hF.1 rfl).2.mono (Flat.mono _) (le.at 1 rfl))⟩⟩, tv⟩ hq6313 (hK6314.mono (le.at 0 rfl)) rfl) fun K6316 hl6315 => ?_
         have := hl6315.len
         refine sk1 ?_
         exact finU (f := fun q => .slice q.1 1 q.2) (G := (fun (q : Option Addr × Nat) K => Sl (RSegment) 3 K q.1 q.2 ([(⟨r6293, r6293, (-1)⟩ : Segment)] : List Segment))) (_, _) (fun _ _ _ h x => x.mono (RSegment.mono) h) hl6315)) ?_
       rintro ⟨ad6318, cap6319⟩
       refine DF.nil fun K6320 hF => ?_
       obtain ⟨hu6317, hu6310, hu6307, hu6300, _⟩ := hF
       have := hu6300.len
       have := hu6307.len
       have := hu6317.len
       obtain ⟨hk6321, hr6322⟩ := chk_some hr6295
       have := lenA e5842.2 ([(⟨r6293, r6293, (-1)⟩ : Segment)] : List Segment)
       refine TG.pack (fun K => Sl (RSegment) 3 K ad6318 cap6319 ([(⟨r6293, r6293, (-1)⟩ : Segment)] : List Segment) ∧ Rows (RSegment) 3 K css5847 e5842.2) (fun H le => ⟨hu6317.mono (RSegment.mono) (le.at 0 rfl), hR5849.mono (RSegment.mono) (le.at 1 rfl)⟩) fun K6325 ⟨hm6326, hR6327⟩ => (apR 13 (l := e5842.2) (m := ([(⟨r6293, r6293, (-1)⟩ : Segment)] : List Segment)) T4.E91 rfl rfl rfl rfl rfl rfl hm6326 hR6327 RSegment.one rfl hk6321 fun ad6323 cap6324 css6329 hR6328 => (sto 9 (cs := [.slice ad6323 ((e5842.2 ++ ([(⟨r6293, r6293, (-1)⟩ : Segment)] : List Segment)).length) cap6324]) Z91 rfl rfl rfl rfl rfl rfl rfl (on ?_)))
       cases hr6322
       intro a w hS hA
       exact ⟨ad6323, cap6324, css6329, K6325, hS.selH [0, 2, 3, 4, 5, 6, 7, 8, 9, 10, 11] rfl, hA.cut tv, hR6328⟩
      ·have hr6330 := if_n hc6291 hx6284
       refine sk ?_
       cases hr6330
       intro a w hS hA
       exact ⟨ad5845, cap5846, css5847, K5848, hS.selH [0, 0, 1, 2, 3, 4, 5, 6, 7, 8, 9] rfl, hA.cut tv, hR5849⟩
     ·rintro a w ⟨ad6286, cap6287, css6288, K6289, hS, hA, hR6290⟩
      refine TG.ap ?_ hS hA
      cases hr6285
      intro a w hS hA
      refine ret0 hA rfl ?_
      exact ⟨_, rfl, ⟨ad6286, cap6287, css6288, K6289, rfl, hS, hR6290⟩⟩
    ·rintro a w v hA (⟨ad6238, cap6239, css6240, K6241, rfl, hS, hR6242⟩)
     refine putK rfl hA hS (on (sq (rg (ld G91 rfl rfl (sO 9 rfl) rfl (a1 rfl (a1 rfl (on (rt_ ?_))))))))
     cases hr6237
     intro a w hS hA
     refine ret2 hA rfl rfl rfl ?_
     exact ⟨⟨_, _, rfl, (hS.rowsOut 13 rfl 0 rfl (RSegment.mono) hR6242)⟩, hS.ext⟩

theorem w46 {M : Prop} {W : World} {H : Hp} (hH : H.le (hp W)) {ad_a_0 : Option Addr} {cap_a_0 : Nat} {a_0 : List Bytes} (h_a_0 : Sl (Flat encS) 1 H ad_a_0 cap_a_0 a_0) {ad_b_1 : Option Addr} {cap_b_1 : Nat} {b_1 : List Bytes} (h_b_1 : Sl (Flat encS) 1 H ad_b_1 cap_b_1 b_1) {r : Bool} (hr : m46 a_0 b_1 = some r) : Calls Tryz.prog 46 [.slice ad_a_0 a_0.length cap_a_0, .slice ad_b_1 b_1.length cap_b_1].toArray W (RetS M W (.bool r)) := by
 have := h_a_0.len
 have := h_b_1.len
 unfold m46 at hr
 refine enterG (M := M) Tryz.func46 rfl Tryz.ntmps46 rfl hH ?_
 refine sq (rg (a1 rfl (on (sq (sq (rg (m1 rfl (lnL U24 rfl rfl (m1 rfl (lnL U24 rfl rfl (neI rfl rfl rfl ?_)))))))))))
 refine on ?_
 refine ci rfl (fun hc4 => ?_) (fun hc4 => ?_)
 ·have hr5 := if_p hc4 hr
  refine sq (rg (a1 rfl (on (rt_ ?_))))
  cases hr5
  intro a w hS hA
  refine ret1 hA rfl rfl ?_
  exact ⟨rfl, hS.ext⟩
 ·have hr6 := if_n hc4 hr
  refine sk (sq (sq (rg (a1 rfl (on ?_)))))
  obtain ⟨e31, hl32, hr33⟩ := bd_some hr6
  refine jn (fun a w => ∃ t34, e31 = .inl t34 ∧ St M W H [H] [] w ∧ Has [] 26 a []) ?_ ?_
  ·refine bk ?_
   refine lp hl32 (fun s35 a w => St M W H [H] [] w ∧ Has [] 26 a [(0, .slice ad_a_0 a_0.length cap_a_0), (1, .slice ad_b_1 b_1.length cap_b_1), (5, .int .i64 (s35 : Int))]) ?_ ?_
   ·exact cu ⟨rfl, rfl, rfl, tv⟩
   ·rintro j s35 y38 hr36 hz37 a w ⟨hS, hA⟩
    refine TG.ap ?_ hS hA
    unfold m46_1 at hr36
    refine sq (sq (rg (m1 rfl (m1 rfl (lnL U24 rfl rfl (ltI rfl rfl rfl (on ?_)))))))
    refine ci rfl (fun hc42 => ?_) (fun hc42 => ?_)
    ·have hr43 := if_p hc42 hr36
     refine sk (sq (bk (sq ?_)))
     obtain ⟨x64, hx65, hr66⟩ := bd_some hr43
     obtain ⟨p67, rfl⟩ := h_a_0.adr hx65
     obtain ⟨cs68, hcs69, hq70, hr71⟩ := h_a_0.at hx65
     obtain rfl := hr71
     obtain ⟨x72, hx73, hr74⟩ := bd_some hr66
     obtain ⟨p75, rfl⟩ := h_b_1.adr hx73
     obtain ⟨cs76, hcs77, hq78, hr79⟩ := h_b_1.at hx73
     obtain rfl := hr79
     refine drG 8 mixed (by kernel_rfl) rfl (dt rfl (m1 rfl fin1) (dt rfl (m1 rfl fin1) (dt rfl (iaP U24 Z9 rfl rfl rfl rfl (lt_of hx65) fin1) (dt rfl (ld G9 rfl rfl (sS 1 rfl hq70) rfl fin1) (dt rfl (m1 rfl fin1) (dt rfl (m1 rfl fin1) (dt rfl (iaP U24 Z9 rfl rfl rfl rfl (lt_of hx73) fin1) (dt rfl (ld G9 rfl rfl (sS 1 rfl hq78) rfl fin1) (DF.nil fun K80 hF => (neS rfl rfl rfl (on ?_)))))))))))
     refine ci rfl (fun hc84 => ?_) (fun hc84 => ?_)
     ·have hr85 := if_p hc84 hr74
      refine sq (rg (a1 rfl (on (rt_ ?_))))
      cases hr85
      obtain rfl := Fin.out hz37
      cases hr33
      intro a w hS hA
      refine ret1 hA rfl rfl ?_
      exact ⟨rfl, hS.ext⟩
     ·have hr86 := if_n hc84 hr74
      refine sk (rg (m1 rfl (adI rfl rfl rfl (by omega) (a1 rfl (on ?_)))))
      cases hr86
      intro a w hS hA
      exact ⟨_, hz37, hS.selH [1] rfl, hA.cut ⟨rfl, rfl, rfl, tv⟩⟩
    ·have hr87 := if_n hc42 hr36
     refine xt rfl ?_
     cases hr87
     obtain rfl := Fin.out hz37
     intro a w hS hA
     exact ⟨_, rfl, hS, hA.cut tv⟩
  ·rintro a w ⟨t34, rfl, hS, hA⟩
   refine TG.ap ?_ hS hA
   refine sq (rg (a1 rfl (on (rt_ ?_))))
   cases hr33
   intro a w hS hA
   refine ret1 hA rfl rfl ?_
   exact ⟨rfl, hS.ext⟩

theorem w12 {M : Prop} {W : World} {H : Hp} (hH : H.le (hp W)) (hg : Gv M H) {cs_l_0 : List Value} (l_0 : Lexicon) (h_l_0 : (RLexicon) H cs_l_0 l_0) {ad_swaps : Option Addr} {cap_swaps : Nat} {swaps : List Swap} (h_swaps : Sl (Flat encSwap) 3 H ad_swaps cap_swaps swaps) {cs_r_2 : List Value} (r_2 : Report) (h_r_2 : (RReport) H cs_r_2 r_2) {ad_requests : Option Addr} {cap_requests : Nat} {requests : List Request} (h_requests : Sl (RRequest) 5 H ad_requests cap_requests requests) {r : Bool} (hr : m12 l_0 swaps r_2 requests = some r) : Calls Tryz.prog 12 [.agg cs_l_0.toArray, .slice ad_swaps swaps.length cap_swaps, .agg cs_r_2.toArray, .slice ad_requests requests.length cap_requests].toArray W (RetS M W (.bool r)) := by
 have hh_l_0 := h_l_0
 obtain ⟨ad1, cap2, ad4, cap5, ad7, cap8, rfl, hl3, hl6, hl9⟩ := h_l_0
 have := hl3.len
 have := hl6.len
 have := hl9.len
 have := h_swaps.len
 have hh_r_2 := h_r_2
 obtain ⟨ad10, cap11, rfl, hl12⟩ := h_r_2
 have := hl12.len
 have := h_requests.len
 unfold m12 at hr
 refine enterG (M := M) Tryz.func12 rfl Tryz.ntmps12 rfl hH ?_
 refine sq (rg (bI (cs := [.slice ad1 l_0.numbers.length cap2, .slice ad4 l_0.names.length cap5, .slice ad7 l_0.nots.length cap8]) rfl rfl rfl fun q13 K14 hK15 => (bI (cs := [.slice ad10 r_2.words.length cap11, .int .i64 r_2.out, .int .i64 r_2.within]) rfl rfl rfl fun q16 K17 hK18 => (a1 rfl (on (sq (sq (rg (ldA G26 Z26 rfl rfl (sS 1 rfl hK15) rfl (m1 rfl (ldA G68 Z68 rfl rfl (sS 0 rfl hK18) rfl ?_)))))))))))
 refine m1 rfl ?_
 obtain ⟨r19, hx20, hr21⟩ := bd_some hr
 refine clS C30 rfl rfl rfl rfl (fun w H hH le => w30 hH l_0 (RLexicon.mono _ _ _ _ (le.at 2 rfl) hh_l_0) (h_swaps.mono (Flat.mono _) (le.at 2 rfl)) r_2 (RReport.mono _ _ _ _ (le.at 2 rfl) hh_r_2) (h_requests.mono (RRequest.mono) (le.at 2 rfl)) hx20) (nt rfl rfl (on ?_))
 refine cb rfl (fun hc28 => ?_) (fun hc28 => ?_)
 ·replace hc28 := nbt hc28
  have hr29 := if_f hc28 hr21
  refine sq (rg ?_)
  obtain ⟨r30, hx31, hr32⟩ := bd_some hr29
  refine clS C17 rfl rfl rfl rfl (fun w H hH le => w17 hH (hg.mono (le.at 2 rfl))  hx31) (a1 rfl (on (rt_ ?_)))
  cases hr32
  intro a w hS hA
  refine ret1 hA rfl rfl ?_
  exact ⟨rfl, hS.ext⟩
 ·replace hc28 := nbf hc28
  have hr33 := if_p hc28 hr21
  refine sk (sq ?_)
  obtain ⟨r34, hx35, hr36⟩ := bd_some hr33
  obtain ⟨r42, hx43, hr44⟩ := bd_some hr36
  obtain ⟨r52, hx53, hr54⟩ := bd_some hr44
  obtain ⟨r60, hx61, hr62⟩ := bd_some hr54
  obtain ⟨r70, hx71, hr72⟩ := bd_some hr62
  refine drG 13 mixed (by kernel_rfl) rfl (dt rfl (ldA G26 Z26 rfl rfl (sS 2 rfl hK15) rfl fin1) ?_)
  refine DF.und (α := List Value) [] (fun q => .agg q.toArray) (fun (q : List Value) K => (RLexicon) K q r34) (fun _ _ _ h x => RLexicon.mono _ _ _ _ h x) (by kernel_rfl) rfl (fun a w K hS hA hF => TG.pa hS hA (clK C19 rfl rfl rfl rfl (fun w H hH le => w19 hH l_0 (RLexicon.mono _ _ _ _ (le.at 3 rfl) hh_l_0) hx35) (by
    rintro v_ K37 ⟨cs38, rfl, hr39⟩
    exact finU (f := fun q => .agg q.toArray) (G := (fun (q : List Value) K => (RLexicon) K q r34)) _ (fun _ _ _ h x => RLexicon.mono _ _ _ _ h x) hr39))) fun cs41 => ?_
  refine dt rfl (m1 rfl fin1) ?_
  refine DF.und (α := Option Addr × Nat) (none, 0) (fun q => .slice q.1 r42.length q.2) (fun (q : Option Addr × Nat) K => Sl (Flat encSwap) 3 K q.1 q.2 r42) (fun _ _ _ h x => x.mono (Flat.mono _) h) (by kernel_rfl) rfl (fun a w K hS hA hF => TG.pa hS hA (clK C20 rfl rfl rfl rfl (fun w H hH le => w20 hH (h_swaps.mono (Flat.mono _) (le.at 3 rfl)) hx43) (by
    rintro v_ K45 ⟨ad46, cap47, rfl, hl48⟩
    exact finU (f := fun q => .slice q.1 r42.length q.2) (G := (fun (q : Option Addr × Nat) K => Sl (Flat encSwap) 3 K q.1 q.2 r42)) (_, _) (fun _ _ _ h x => x.mono (Flat.mono _) h) hl48))) ?_
  rintro ⟨ad50, cap51⟩
  refine dt rfl (ldA G68 Z68 rfl rfl (sS 1 rfl hK18) rfl fin1) ?_
  refine DF.und (α := List Value) [] (fun q => .agg q.toArray) (fun (q : List Value) K => (RReport) K q r52) (fun _ _ _ h x => RReport.mono _ _ _ _ h x) (by kernel_rfl) rfl (fun a w K hS hA hF => TG.pa hS hA (clK C31 rfl rfl rfl rfl (fun w H hH le => w31 hH r_2 (RReport.mono _ _ _ _ (le.at 3 rfl) hh_r_2) hx53) (by
    rintro v_ K55 ⟨cs56, rfl, hr57⟩
    exact finU (f := fun q => .agg q.toArray) (G := (fun (q : List Value) K => (RReport) K q r52)) _ (fun _ _ _ h x => RReport.mono _ _ _ _ h x) hr57))) fun cs59 => ?_
  refine dt rfl (m1 rfl fin1) ?_
  refine DF.und (α := Option Addr × Nat) (none, 0) (fun q => .slice q.1 r60.length q.2) (fun (q : Option Addr × Nat) K => Sl (RRequest) 5 K q.1 q.2 r60) (fun _ _ _ h x => x.mono (RRequest.mono) h) (by kernel_rfl) rfl (fun a w K hS hA hF => TG.pa hS hA (clK C32 rfl rfl rfl rfl (fun w H hH le => w32 hH (h_requests.mono (RRequest.mono) (le.at 3 rfl)) hx61) (by
    rintro v_ K63 ⟨ad64, cap65, rfl, hl66⟩
    exact finU (f := fun q => .slice q.1 r60.length q.2) (G := (fun (q : Option Addr × Nat) K => Sl (RRequest) 5 K q.1 q.2 r60)) (_, _) (fun _ _ _ h x => x.mono (RRequest.mono) h) hl66))) ?_
  rintro ⟨ad68, cap69⟩
  refine DF.und (α := Option Addr × Nat) (none, 0) (fun q => .tuple [.slice q.1 r70.1.length q.2, .int .i64 r70.2].toArray) (fun (q : Option Addr × Nat) K => Sl (RSegment) 3 K q.1 q.2 r70.1) (fun _ _ _ h x => x.mono (RSegment.mono) h) (by kernel_rfl) rfl (fun a w K hS hA hF => TG.pa hS hA (clK C42 rfl rfl rfl rfl (fun w H hH le => w42 hH (hg.mono (le.at 3 rfl)) r34 (RLexicon.mono _ _ _ _ (le.at 0 rfl) (hF.2.2.2.1 rfl)) ((hF.2.2.1 rfl).mono (Flat.mono _) (le.at 0 rfl)) r52 (RReport.mono _ _ _ _ (le.at 0 rfl) (hF.2.1 rfl)) ((hF.1 rfl).mono (RRequest.mono) (le.at 0 rfl)) hx71) (by
    rintro v_ K73 ⟨ad74, cap75, rfl, hl76⟩
    exact finU (f := fun q => .tuple [.slice q.1 r70.1.length q.2, .int .i64 r70.2].toArray) (G := (fun (q : Option Addr × Nat) K => Sl (RSegment) 3 K q.1 q.2 r70.1)) (ad74, cap75) (fun _ _ _ h x => x.mono (RSegment.mono) h) hl76))) ?_
  rintro ⟨ad78, cap79⟩
  refine DF.und () (fun _ => .tuple [.slice ad78 r70.1.length cap79, .int .i64 r70.2].toArray) (fun _ K => Sl (RSegment) 3 K ad78 cap79 r70.1) (fun _ _ _ h x => x.mono (RSegment.mono) h) (by kernel_rfl) rfl (fun a w K hS hA hF => TG.pa hS hA (m1 rfl (finF (f := fun _ => .tuple [.slice ad78 r70.1.length cap79, .int .i64 r70.2].toArray) (G := fun _ K => Sl (RSegment) 3 K ad78 cap79 r70.1) () (hF.1 rfl)))) fun _ => (DF.und () (fun _ => .slice ad78 r70.1.length cap79) (fun _ K => Sl (RSegment) 3 K ad78 cap79 r70.1) (fun _ _ _ h x => x.mono (RSegment.mono) h) (by kernel_rfl) rfl (fun a w K hS hA hF => TG.pa hS hA (ex rfl rfl rfl (finF (f := fun _ => .slice ad78 r70.1.length cap79) (G := fun _ K => Sl (RSegment) 3 K ad78 cap79 r70.1) () (hF.1 rfl)))) fun _ => (dt rfl (ex rfl rfl rfl fin1) (DF.und () (fun _ => .slice ad78 r70.1.length cap79) (fun _ K => Sl (RSegment) 3 K ad78 cap79 r70.1) (fun _ _ _ h x => x.mono (RSegment.mono) h) (by kernel_rfl) rfl (fun a w K hS hA hF => TG.pa hS hA (a1 rfl (finF (f := fun _ => .slice ad78 r70.1.length cap79) (G := fun _ K => Sl (RSegment) 3 K ad78 cap79 r70.1) () (hF.1 rfl)))) fun _ => (DF.nil fun K83 hF => ?_))))
  obtain ⟨hu82, hu81, hu80, hu77, hu67, hu58, hu49, hu40, _⟩ := hF
  have hr84 := hu40
  obtain ⟨ad85, cap86, ad88, cap89, ad91, cap92, rfl, hl87, hl90, hl93⟩ := hu40
  have := hl87.len
  have := hl90.len
  have := hl93.len
  have := hu49.len
  have hr94 := hu58
  obtain ⟨ad95, cap96, rfl, hl97⟩ := hu58
  have := hl97.len
  have := hu67.len
  have := hu77.len
  refine a1 rfl (on (sq ?_))
  obtain ⟨r122, hx123, hr124⟩ := bd_some hr72
  refine drG 13 mixed (by kernel_rfl) rfl (dt rfl (ldA G26 Z26 rfl rfl (sS 3 rfl hK15) rfl fin1) ?_)
  refine DF.und (α := List Value) [] (fun q => .agg q.toArray) (fun (q : List Value) K => (RLexicon) K q r34) (fun _ _ _ h x => RLexicon.mono _ _ _ _ h x) (by kernel_rfl) rfl (fun a w K hS hA hF => TG.pa hS hA (clK C19 rfl rfl rfl rfl (fun w H hH le => w19 hH l_0 (RLexicon.mono _ _ _ _ (le.at 4 rfl) hh_l_0) hx35) (by
    rintro v_ K98 ⟨cs99, rfl, hr100⟩
    exact finU (f := fun q => .agg q.toArray) (G := (fun (q : List Value) K => (RLexicon) K q r34)) _ (fun _ _ _ h x => RLexicon.mono _ _ _ _ h x) hr100))) fun cs102 => ?_
  refine dt rfl (m1 rfl fin1) ?_
  refine DF.und (α := Option Addr × Nat) (none, 0) (fun q => .slice q.1 r42.length q.2) (fun (q : Option Addr × Nat) K => Sl (Flat encSwap) 3 K q.1 q.2 r42) (fun _ _ _ h x => x.mono (Flat.mono _) h) (by kernel_rfl) rfl (fun a w K hS hA hF => TG.pa hS hA (clK C20 rfl rfl rfl rfl (fun w H hH le => w20 hH (h_swaps.mono (Flat.mono _) (le.at 4 rfl)) hx43) (by
    rintro v_ K103 ⟨ad104, cap105, rfl, hl106⟩
    exact finU (f := fun q => .slice q.1 r42.length q.2) (G := (fun (q : Option Addr × Nat) K => Sl (Flat encSwap) 3 K q.1 q.2 r42)) (_, _) (fun _ _ _ h x => x.mono (Flat.mono _) h) hl106))) ?_
  rintro ⟨ad108, cap109⟩
  refine dt rfl (ldA G68 Z68 rfl rfl (sS 2 rfl hK18) rfl fin1) ?_
  refine DF.und (α := List Value) [] (fun q => .agg q.toArray) (fun (q : List Value) K => (RReport) K q r52) (fun _ _ _ h x => RReport.mono _ _ _ _ h x) (by kernel_rfl) rfl (fun a w K hS hA hF => TG.pa hS hA (clK C31 rfl rfl rfl rfl (fun w H hH le => w31 hH r_2 (RReport.mono _ _ _ _ (le.at 4 rfl) hh_r_2) hx53) (by
    rintro v_ K110 ⟨cs111, rfl, hr112⟩
    exact finU (f := fun q => .agg q.toArray) (G := (fun (q : List Value) K => (RReport) K q r52)) _ (fun _ _ _ h x => RReport.mono _ _ _ _ h x) hr112))) fun cs114 => ?_
  refine dt rfl (m1 rfl fin1) ?_
  refine DF.und (α := Option Addr × Nat) (none, 0) (fun q => .slice q.1 r60.length q.2) (fun (q : Option Addr × Nat) K => Sl (RRequest) 5 K q.1 q.2 r60) (fun _ _ _ h x => x.mono (RRequest.mono) h) (by kernel_rfl) rfl (fun a w K hS hA hF => TG.pa hS hA (clK C32 rfl rfl rfl rfl (fun w H hH le => w32 hH (h_requests.mono (RRequest.mono) (le.at 4 rfl)) hx61) (by
    rintro v_ K115 ⟨ad116, cap117, rfl, hl118⟩
    exact finU (f := fun q => .slice q.1 r60.length q.2) (G := (fun (q : Option Addr × Nat) K => Sl (RRequest) 5 K q.1 q.2 r60)) (_, _) (fun _ _ _ h x => x.mono (RRequest.mono) h) hl118))) ?_
  rintro ⟨ad120, cap121⟩
  refine DF.und (α := Option Addr × Nat) (none, 0) (fun q => .tuple [.slice q.1 r122.1.length q.2, .int .i64 r122.2].toArray) (fun (q : Option Addr × Nat) K => Sl (Flat (encI .i64)) 1 K q.1 q.2 r122.1) (fun _ _ _ h x => x.mono (Flat.mono _) h) (by kernel_rfl) rfl (fun a w K hS hA hF => TG.pa hS hA (clK C29 rfl rfl rfl rfl (fun w H hH le => w29 hH (hg.mono (le.at 4 rfl)) r34 (RLexicon.mono _ _ _ _ (le.at 0 rfl) (hF.2.2.2.1 rfl)) ((hF.2.2.1 rfl).mono (Flat.mono _) (le.at 0 rfl)) r52 (RReport.mono _ _ _ _ (le.at 0 rfl) (hF.2.1 rfl)) ((hF.1 rfl).mono (RRequest.mono) (le.at 0 rfl)) hx123) (by
    rintro v_ K125 ⟨ad126, cap127, rfl, hl128⟩
    exact finU (f := fun q => .tuple [.slice q.1 r122.1.length q.2, .int .i64 r122.2].toArray) (G := (fun (q : Option Addr × Nat) K => Sl (Flat (encI .i64)) 1 K q.1 q.2 r122.1)) (ad126, cap127) (fun _ _ _ h x => x.mono (Flat.mono _) h) hl128))) ?_
  rintro ⟨ad130, cap131⟩
  refine DF.und () (fun _ => .tuple [.slice ad130 r122.1.length cap131, .int .i64 r122.2].toArray) (fun _ K => Sl (Flat (encI .i64)) 1 K ad130 cap131 r122.1) (fun _ _ _ h x => x.mono (Flat.mono _) h) (by kernel_rfl) rfl (fun a w K hS hA hF => TG.pa hS hA (m1 rfl (finF (f := fun _ => .tuple [.slice ad130 r122.1.length cap131, .int .i64 r122.2].toArray) (G := fun _ K => Sl (Flat (encI .i64)) 1 K ad130 cap131 r122.1) () (hF.1 rfl)))) fun _ => (DF.und () (fun _ => .slice ad130 r122.1.length cap131) (fun _ K => Sl (Flat (encI .i64)) 1 K ad130 cap131 r122.1) (fun _ _ _ h x => x.mono (Flat.mono _) h) (by kernel_rfl) rfl (fun a w K hS hA hF => TG.pa hS hA (ex rfl rfl rfl (finF (f := fun _ => .slice ad130 r122.1.length cap131) (G := fun _ K => Sl (Flat (encI .i64)) 1 K ad130 cap131 r122.1) () (hF.1 rfl)))) fun _ => (dt rfl (ex rfl rfl rfl fin1) (DF.und () (fun _ => .slice ad130 r122.1.length cap131) (fun _ K => Sl (Flat (encI .i64)) 1 K ad130 cap131 r122.1) (fun _ _ _ h x => x.mono (Flat.mono _) h) (by kernel_rfl) rfl (fun a w K hS hA hF => TG.pa hS hA (a1 rfl (finF (f := fun _ => .slice ad130 r122.1.length cap131) (G := fun _ K => Sl (Flat (encI .i64)) 1 K ad130 cap131 r122.1) () (hF.1 rfl)))) fun _ => (DF.nil fun K135 hF => ?_))))
  obtain ⟨hu134, hu133, hu132, hu129, hu119, hu113, hu107, hu101, _⟩ := hF
  have hr136 := hu101
  obtain ⟨ad137, cap138, ad140, cap141, ad143, cap144, rfl, hl139, hl142, hl145⟩ := hu101
  have := hl139.len
  have := hl142.len
  have := hl145.len
  have := hu107.len
  have hr146 := hu113
  obtain ⟨ad147, cap148, rfl, hl149⟩ := hu113
  have := hl149.len
  have := hu119.len
  have := hu129.len
  refine a1 rfl (on (sq (sq ?_)))
  obtain ⟨t156, hx157, hr158⟩ := bd_some hr124
  refine jn (fun a w => St M W H [K135, K83, K17, K14, H] [] w ∧ Has [] 212 a [(3, .slice ad_requests requests.length cap_requests), (6, .pointer (some q16)), (9, .slice ad78 r70.1.length cap79), (11, .slice ad130 r122.1.length cap131), (62, .bool t156)]) ?_ ?_
  ·refine rg (m1 rfl (neI rfl rfl rfl (m1 rfl ?_)))
   by_cases hb159 : r70.2 ≠ 0
   ·have hr160 := if_p hb159 hx157
    refine gf' hb159 rfl (gf' hb159 rfl (pt hb159 rfl rfl (m1 rfl (gF rfl rfl rfl rfl (gF rfl rfl rfl rfl (gF rfl rfl rfl rfl (gF rfl rfl rfl rfl (gF rfl rfl rfl rfl (pT rfl rfl rfl rfl (on ?_))))))))))
    cases hr160
    exact cu ⟨rfl, rfl, rfl, rfl, rfl, tv⟩
   ·have hr161 := if_n hb159 hx157
    refine gt' hb159 rfl (m1 rfl (gt' hb159 rfl (neI rfl rfl rfl (pf hb159 rfl rfl (m1 rfl ?_)))))
    by_cases hb162 : r122.2 ≠ 0
    ·have hr163 := if_p hb162 hr161
     refine gf' hb162 rfl (gf' hb162 rfl (gf' hb162 rfl (gf' hb162 rfl (gf' hb162 rfl (pt hb162 rfl rfl (on ?_))))))
     cases hr163
     exact cu ⟨rfl, rfl, rfl, rfl, rfl, tv⟩
    ·have hr164 := if_n hb162 hr161
     refine gt' hb162 rfl (m1 rfl (gt' hb162 rfl (lnL U59 rfl rfl (gt' hb162 rfl (m1 rfl (gt' hb162 rfl (lnL U69 rfl rfl (gt' hb162 rfl (neI rfl rfl rfl (pf hb162 rfl rfl (on ?_)))))))))))
     cases hr164
     exact cu ⟨rfl, rfl, rfl, rfl, rfl, tv⟩
  ·rintro a w ⟨hS, hA⟩
   refine TG.ap ?_ hS hA
   refine cb rfl (fun hc168 => ?_) (fun hc168 => ?_)
   ·have hr169 := if_p hc168 hr158
    refine sq (rg (a1 rfl (on (rt_ ?_))))
    cases hr169
    intro a w hS hA
    refine ret1 hA rfl rfl ?_
    exact ⟨rfl, hS.ext⟩
   ·have hr170 := if_f hc168 hr158
    refine sk (sq (rg (a1 rfl (on (sq (rg (m1 rfl (lnL U69 rfl rfl ?_))))))))
    obtain ⟨hk171, hr172⟩ := chk_some hr170
    have : (List.replicate requests.length (0 : Int)).length = requests.length := List.length_replicate
    refine mkL 1 (encI .i64) (0 : Int) T4.E86 rfl rfl rfl rfl rfl rfl rfl hk171 fun b173 => (a1 rfl (on (sq (sq (rg (a1 rfl (on ?_)))))))
    obtain ⟨e436, hl437, hr438⟩ := bd_some hr172
    refine jn (fun a w => ∃ t439, e436 = .inl t439 ∧ St M W H [K135, K83, K17, K14, H] [(1, Own.list (some ⟨b173, 0, none⟩) requests.length 3 1 (encI .i64) t439.2)] w ∧ Has [] 212 a [(6, .pointer (some q16)), (11, .slice ad130 r122.1.length cap131), (13, .int .i64 (t439.1 : Int)), (14, .slice (some ⟨b173, 0, none⟩) ((List.replicate requests.length (0 : Int)).length) requests.length)] ∧ t439.2.length = (List.replicate requests.length (0 : Int)).length) ?_ ?_
    ·refine bk ?_
     refine lp hl437 (fun s441 a w => St M W H [K135, K83, K17, K14, H] [(1, Own.list (some ⟨b173, 0, none⟩) requests.length 3 1 (encI .i64) s441.2.2)] w ∧ Has [] 212 a [(3, .slice ad_requests requests.length cap_requests), (6, .pointer (some q16)), (9, .slice ad78 r70.1.length cap79), (11, .slice ad130 r122.1.length cap131), (13, .int .i64 (s441.1 : Int)), (14, .slice (some ⟨b173, 0, none⟩) ((List.replicate requests.length (0 : Int)).length) requests.length), (15, .int .i64 (s441.2.1 : Int))] ∧ s441.2.2.length = (List.replicate requests.length (0 : Int)).length) ?_ ?_
     ·intro a w hS hA
      exact ⟨hS, hA.cut ⟨rfl, rfl, rfl, rfl, rfl, rfl, rfl, tv⟩, rfl⟩
     ·rintro j s441 y445 hr443 hz444 a w ⟨hS, hA, hln442⟩
      refine TG.ap ?_ hS hA
      unfold m12_1 at hr443
      refine sq (sq (rg (m1 rfl (m1 rfl (lnL U91 rfl rfl (ltI rfl rfl rfl (on ?_)))))))
      refine ci rfl (fun hc449 => ?_) (fun hc449 => ?_)
      ·have hr450 := if_p hc449 hr443
       refine sk (sq (bk (sq (rg (m1 rfl (m1 rfl ?_))))))
       obtain ⟨x577, hx578, hr579⟩ := bd_some hr450
       obtain ⟨p580, rfl⟩ := hu82.adr hx578
       obtain ⟨cs581, hcs582, hq583, hr584⟩ := hu82.at hx578
       have hr585 := hr584
       obtain ⟨ad586, cap587, ad589, cap590, rfl, hl588, hl591⟩ := hr584
       have := hl588.len
       have := hl591.len
       refine iaP U91 Z98 rfl rfl rfl rfl (lt_of hx578) (ldA G98 Z98 rfl rfl (sS 1 rfl hq583) rfl (va (cs := [.slice ad586 x577.old_.length cap587, .slice ad589 x577.new_.length cap590, .int .i64 x577.request]) Tryz.zeroValue98 Z98 rfl rfl rfl rfl rfl rfl rfl rfl fun q592 K593 hK594 => (on (sq (sq ?_)))))
       obtain ⟨t629, hx630, hr631⟩ := bd_some hr579
       refine jn (fun a w => St M W H [K593, K135, K83, K17, K14, H] [(1, Own.list (some ⟨b173, 0, none⟩) requests.length 3 1 (encI .i64) s441.2.2)] w ∧ Has [] 212 a [(3, .slice ad_requests requests.length cap_requests), (6, .pointer (some q16)), (9, .slice (some p580) r70.1.length cap79), (11, .slice ad130 r122.1.length cap131), (13, .int .i64 (s441.1 : Int)), (14, .slice (some ⟨b173, 0, none⟩) ((List.replicate requests.length (0 : Int)).length) requests.length), (15, .int .i64 (s441.2.1 : Int)), (16, .pointer (some q592)), (120, .bool t629)]) ?_ ?_
       ·obtain ⟨hk632, hr633⟩ := chk_some hx630
        by_cases hb634 : ((x577.old_.length : Int) + (x577.new_.length : Int)) = 0
        ·have hr635 := if_p hb634 hr633
         refine drG 42 mixed (by kernel_rfl) rfl (dt rfl (fb 0 U98 rfl rfl rfl rfl Z24 fin1) (dt rfl (ld G24 rfl rfl ((sS 1 rfl hK594).take 1) rfl fin1) (dt rfl (lnL U24 rfl rfl fin1) (dt rfl (fb 1 U98 rfl rfl rfl rfl Z24 fin1) (dt rfl (ld G24 rfl rfl (((sS 1 rfl hK594).drop 1).take 1) rfl fin1) (dt rfl (lnL U24 rfl rfl fin1) (dt rfl (adI rfl rfl rfl hk632 fin1) (dt rfl (eqI rfl rfl rfl fin1) (dt rfl (m1 rfl fin1) (dt rfl (gf' hb634 rfl fin1) (dt rfl (gf' hb634 rfl fin1) ?_)))))))))))
         refine dt rfl (gf' hb634 rfl fin1) (dt rfl (pt hb634 rfl rfl fin1) (dt rfl (m1 rfl fin1) (dt rfl (gF rfl rfl rfl rfl fin1) (dt rfl (gF rfl rfl rfl rfl fin1) (dt rfl (gF rfl rfl rfl rfl fin1) (dt rfl (gF rfl rfl rfl rfl fin1) (dt rfl (gF rfl rfl rfl rfl fin1) (dt rfl (pT rfl rfl rfl rfl fin1) (dt rfl (m1 rfl fin1) (dt rfl (gF rfl rfl rfl rfl fin1) (dt rfl (gF rfl rfl rfl rfl fin1) ?_)))))))))))
         refine dt rfl (gF rfl rfl rfl rfl fin1) (dt rfl (gF rfl rfl rfl rfl fin1) (dt rfl (gF rfl rfl rfl rfl fin1) (dt rfl (gF rfl rfl rfl rfl fin1) (dt rfl (gF rfl rfl rfl rfl fin1) (dt rfl (gF rfl rfl rfl rfl fin1) (dt rfl (gF rfl rfl rfl rfl fin1) (dt rfl (pT rfl rfl rfl rfl fin1) (dt rfl (m1 rfl fin1) (dt rfl (gF rfl rfl rfl rfl fin1) (dt rfl (gF rfl rfl rfl rfl fin1) (dt rfl (gF rfl rfl rfl rfl fin1) ?_)))))))))))
         refine dt rfl (gF rfl rfl rfl rfl fin1) (dt rfl (gF rfl rfl rfl rfl fin1) (dt rfl (gF rfl rfl rfl rfl fin1) (dt rfl (gF rfl rfl rfl rfl fin1) (dt rfl (gF rfl rfl rfl rfl fin1) (dt rfl (gF rfl rfl rfl rfl fin1) (dt rfl (gF rfl rfl rfl rfl fin1) (DF.nil fun K636 hF => (gF rfl rfl rfl rfl (gF rfl rfl rfl rfl (pT rfl rfl rfl rfl (on ?_)))))))))))
         cases hr635
         intro a w hS hA
         exact ⟨hS.selH [1, 2, 3, 4, 5, 6] rfl, hA.cut ⟨rfl, rfl, rfl, rfl, rfl, rfl, rfl, rfl, rfl, tv⟩⟩
        ·have hr637 := if_n hb634 hr633
         by_cases hb638 : x577.request < (-1)
         ·have hr639 := if_p hb638 hr637
          refine drG 42 mixed (by kernel_rfl) rfl (dt rfl (fb 0 U98 rfl rfl rfl rfl Z24 fin1) (dt rfl (ld G24 rfl rfl ((sS 1 rfl hK594).take 1) rfl fin1) (dt rfl (lnL U24 rfl rfl fin1) (dt rfl (fb 1 U98 rfl rfl rfl rfl Z24 fin1) (dt rfl (ld G24 rfl rfl (((sS 1 rfl hK594).drop 1).take 1) rfl fin1) (dt rfl (lnL U24 rfl rfl fin1) (dt rfl (adI rfl rfl rfl hk632 fin1) (dt rfl (eqI rfl rfl rfl fin1) (dt rfl (m1 rfl fin1) (dt rfl (gt' hb634 rfl (fb 2 U98 rfl rfl rfl rfl Z3 fin1)) (dt rfl (gt' hb634 rfl (ld G3 rfl rfl ((sS 1 rfl hK594).drop 2) rfl fin1)) ?_)))))))))))
          refine dt rfl (gt' hb634 rfl (ltI rfl rfl rfl fin1)) (dt rfl (pf hb634 rfl rfl fin1) (dt rfl (m1 rfl fin1) (dt rfl (gf' hb638 rfl fin1) (dt rfl (gf' hb638 rfl fin1) (dt rfl (gf' hb638 rfl fin1) (dt rfl (gf' hb638 rfl fin1) (dt rfl (gf' hb638 rfl fin1) (dt rfl (pt hb638 rfl rfl fin1) (dt rfl (m1 rfl fin1) (dt rfl (gF rfl rfl rfl rfl fin1) (dt rfl (gF rfl rfl rfl rfl fin1) ?_)))))))))))
          refine dt rfl (gF rfl rfl rfl rfl fin1) (dt rfl (gF rfl rfl rfl rfl fin1) (dt rfl (gF rfl rfl rfl rfl fin1) (dt rfl (gF rfl rfl rfl rfl fin1) (dt rfl (gF rfl rfl rfl rfl fin1) (dt rfl (gF rfl rfl rfl rfl fin1) (dt rfl (gF rfl rfl rfl rfl fin1) (dt rfl (pT rfl rfl rfl rfl fin1) (dt rfl (m1 rfl fin1) (dt rfl (gF rfl rfl rfl rfl fin1) (dt rfl (gF rfl rfl rfl rfl fin1) (dt rfl (gF rfl rfl rfl rfl fin1) ?_)))))))))))
          refine dt rfl (gF rfl rfl rfl rfl fin1) (dt rfl (gF rfl rfl rfl rfl fin1) (dt rfl (gF rfl rfl rfl rfl fin1) (dt rfl (gF rfl rfl rfl rfl fin1) (dt rfl (gF rfl rfl rfl rfl fin1) (dt rfl (gF rfl rfl rfl rfl fin1) (dt rfl (gF rfl rfl rfl rfl fin1) (DF.nil fun K640 hF => (gF rfl rfl rfl rfl (gF rfl rfl rfl rfl (pT rfl rfl rfl rfl (on ?_)))))))))))
          cases hr639
          intro a w hS hA
          exact ⟨hS.selH [1, 2, 3, 4, 5, 6] rfl, hA.cut ⟨rfl, rfl, rfl, rfl, rfl, rfl, rfl, rfl, rfl, tv⟩⟩
         ·have hr641 := if_n hb638 hr637
          by_cases hb642 : (requests.length : Int) ≤ x577.request
          ·have hr643 := if_p hb642 hr641
           refine drG 42 mixed (by kernel_rfl) rfl (dt rfl (fb 0 U98 rfl rfl rfl rfl Z24 fin1) (dt rfl (ld G24 rfl rfl ((sS 1 rfl hK594).take 1) rfl fin1) (dt rfl (lnL U24 rfl rfl fin1) (dt rfl (fb 1 U98 rfl rfl rfl rfl Z24 fin1) (dt rfl (ld G24 rfl rfl (((sS 1 rfl hK594).drop 1).take 1) rfl fin1) (dt rfl (lnL U24 rfl rfl fin1) (dt rfl (adI rfl rfl rfl hk632 fin1) (dt rfl (eqI rfl rfl rfl fin1) (dt rfl (m1 rfl fin1) (dt rfl (gt' hb634 rfl (fb 2 U98 rfl rfl rfl rfl Z3 fin1)) (dt rfl (gt' hb634 rfl (ld G3 rfl rfl ((sS 1 rfl hK594).drop 2) rfl fin1)) ?_)))))))))))
           refine dt rfl (gt' hb634 rfl (ltI rfl rfl rfl fin1)) (dt rfl (pf hb634 rfl rfl fin1) (dt rfl (m1 rfl fin1) (dt rfl (gt' hb638 rfl (fb 2 U98 rfl rfl rfl rfl Z3 fin1)) (dt rfl (gt' hb638 rfl (ld G3 rfl rfl ((sS 1 rfl hK594).drop 2) rfl fin1)) (dt rfl (gt' hb638 rfl (m1 rfl fin1)) (dt rfl (gt' hb638 rfl (lnL U69 rfl rfl fin1)) (dt rfl (gt' hb638 rfl (geI rfl rfl rfl fin1)) (dt rfl (pf hb638 rfl rfl fin1) (dt rfl (m1 rfl fin1) (dt rfl (gf' hb642 rfl fin1) (dt rfl (gf' hb642 rfl fin1) ?_)))))))))))
           refine dt rfl (gf' hb642 rfl fin1) (dt rfl (gf' hb642 rfl fin1) (dt rfl (gf' hb642 rfl fin1) (dt rfl (gf' hb642 rfl fin1) (dt rfl (gf' hb642 rfl fin1) (dt rfl (gf' hb642 rfl fin1) (dt rfl (gf' hb642 rfl fin1) (dt rfl (pt hb642 rfl rfl fin1) (dt rfl (m1 rfl fin1) (dt rfl (gF rfl rfl rfl rfl fin1) (dt rfl (gF rfl rfl rfl rfl fin1) (dt rfl (gF rfl rfl rfl rfl fin1) ?_)))))))))))
           refine dt rfl (gF rfl rfl rfl rfl fin1) (dt rfl (gF rfl rfl rfl rfl fin1) (dt rfl (gF rfl rfl rfl rfl fin1) (dt rfl (gF rfl rfl rfl rfl fin1) (dt rfl (gF rfl rfl rfl rfl fin1) (dt rfl (gF rfl rfl rfl rfl fin1) (dt rfl (gF rfl rfl rfl rfl fin1) (DF.nil fun K644 hF => (gF rfl rfl rfl rfl (gF rfl rfl rfl rfl (pT rfl rfl rfl rfl (on ?_)))))))))))
           cases hr643
           intro a w hS hA
           exact ⟨hS.selH [1, 2, 3, 4, 5, 6] rfl, hA.cut ⟨rfl, rfl, rfl, rfl, rfl, rfl, rfl, rfl, rfl, tv⟩⟩
          ·have hr645 := if_n hb642 hr641
           obtain ⟨hk646, hr647⟩ := chk_some hr645
           by_cases hb648 : (r_2.words.length : Int) < ((s441.1 : Int) + (x577.old_.length : Int))
           ·have hr649 := if_p hb648 hr647
            refine drG 42 mixed (by kernel_rfl) rfl (dt rfl (fb 0 U98 rfl rfl rfl rfl Z24 fin1) (dt rfl (ld G24 rfl rfl ((sS 1 rfl hK594).take 1) rfl fin1) (dt rfl (lnL U24 rfl rfl fin1) (dt rfl (fb 1 U98 rfl rfl rfl rfl Z24 fin1) (dt rfl (ld G24 rfl rfl (((sS 1 rfl hK594).drop 1).take 1) rfl fin1) (dt rfl (lnL U24 rfl rfl fin1) (dt rfl (adI rfl rfl rfl hk632 fin1) (dt rfl (eqI rfl rfl rfl fin1) (dt rfl (m1 rfl fin1) (dt rfl (gt' hb634 rfl (fb 2 U98 rfl rfl rfl rfl Z3 fin1)) (dt rfl (gt' hb634 rfl (ld G3 rfl rfl ((sS 1 rfl hK594).drop 2) rfl fin1)) ?_)))))))))))
            refine dt rfl (gt' hb634 rfl (ltI rfl rfl rfl fin1)) (dt rfl (pf hb634 rfl rfl fin1) (dt rfl (m1 rfl fin1) (dt rfl (gt' hb638 rfl (fb 2 U98 rfl rfl rfl rfl Z3 fin1)) (dt rfl (gt' hb638 rfl (ld G3 rfl rfl ((sS 1 rfl hK594).drop 2) rfl fin1)) (dt rfl (gt' hb638 rfl (m1 rfl fin1)) (dt rfl (gt' hb638 rfl (lnL U69 rfl rfl fin1)) (dt rfl (gt' hb638 rfl (geI rfl rfl rfl fin1)) (dt rfl (pf hb638 rfl rfl fin1) (dt rfl (m1 rfl fin1) (dt rfl (gt' hb642 rfl (m1 rfl fin1)) (dt rfl (gt' hb642 rfl (fb 0 U98 rfl rfl rfl rfl Z24 fin1)) ?_)))))))))))
            refine dt rfl (gt' hb642 rfl (ld G24 rfl rfl ((sS 1 rfl hK594).take 1) rfl fin1)) (dt rfl (gt' hb642 rfl (lnL U24 rfl rfl fin1)) (dt rfl (gt' hb642 rfl (adI rfl rfl rfl hk646 fin1)) (dt rfl (gt' hb642 rfl (fb 0 U68 rfl rfl rfl rfl Z66 fin1)) (dt rfl (gt' hb642 rfl (ld G66 rfl rfl ((sS 4 rfl hK18).take 1) rfl fin1)) (dt rfl (gt' hb642 rfl (lnL U66 rfl rfl fin1)) (dt rfl (gt' hb642 rfl (gtI rfl rfl rfl fin1)) (dt rfl (pf hb642 rfl rfl fin1) (dt rfl (m1 rfl fin1) (dt rfl (gf' hb648 rfl fin1) (dt rfl (gf' hb648 rfl fin1) (dt rfl (gf' hb648 rfl fin1) ?_)))))))))))
            refine dt rfl (gf' hb648 rfl fin1) (dt rfl (gf' hb648 rfl fin1) (dt rfl (gf' hb648 rfl fin1) (dt rfl (gf' hb648 rfl fin1) (dt rfl (gf' hb648 rfl fin1) (dt rfl (gf' hb648 rfl fin1) (dt rfl (gf' hb648 rfl fin1) (DF.nil fun K650 hF => (gf' hb648 rfl (gf' hb648 rfl (pt hb648 rfl rfl (on ?_)))))))))))
            cases hr649
            intro a w hS hA
            exact ⟨hS.selH [1, 2, 3, 4, 5, 6] rfl, hA.cut ⟨rfl, rfl, rfl, rfl, rfl, rfl, rfl, rfl, rfl, tv⟩⟩
           ·have hr651 := if_n hb648 hr647
            obtain ⟨r652, hx653, hr654⟩ := bd_some hr651
            refine drG 42 mixed (by kernel_rfl) rfl (dt rfl (fb 0 U98 rfl rfl rfl rfl Z24 fin1) (dt rfl (ld G24 rfl rfl ((sS 1 rfl hK594).take 1) rfl fin1) (dt rfl (lnL U24 rfl rfl fin1) (dt rfl (fb 1 U98 rfl rfl rfl rfl Z24 fin1) (dt rfl (ld G24 rfl rfl (((sS 1 rfl hK594).drop 1).take 1) rfl fin1) (dt rfl (lnL U24 rfl rfl fin1) (dt rfl (adI rfl rfl rfl hk632 fin1) (dt rfl (eqI rfl rfl rfl fin1) (dt rfl (m1 rfl fin1) (dt rfl (gt' hb634 rfl (fb 2 U98 rfl rfl rfl rfl Z3 fin1)) (dt rfl (gt' hb634 rfl (ld G3 rfl rfl ((sS 1 rfl hK594).drop 2) rfl fin1)) ?_)))))))))))
            refine dt rfl (gt' hb634 rfl (ltI rfl rfl rfl fin1)) (dt rfl (pf hb634 rfl rfl fin1) (dt rfl (m1 rfl fin1) (dt rfl (gt' hb638 rfl (fb 2 U98 rfl rfl rfl rfl Z3 fin1)) (dt rfl (gt' hb638 rfl (ld G3 rfl rfl ((sS 1 rfl hK594).drop 2) rfl fin1)) (dt rfl (gt' hb638 rfl (m1 rfl fin1)) (dt rfl (gt' hb638 rfl (lnL U69 rfl rfl fin1)) (dt rfl (gt' hb638 rfl (geI rfl rfl rfl fin1)) (dt rfl (pf hb638 rfl rfl fin1) (dt rfl (m1 rfl fin1) (dt rfl (gt' hb642 rfl (m1 rfl fin1)) (dt rfl (gt' hb642 rfl (fb 0 U98 rfl rfl rfl rfl Z24 fin1)) ?_)))))))))))
            refine dt rfl (gt' hb642 rfl (ld G24 rfl rfl ((sS 1 rfl hK594).take 1) rfl fin1)) (dt rfl (gt' hb642 rfl (lnL U24 rfl rfl fin1)) (dt rfl (gt' hb642 rfl (adI rfl rfl rfl hk646 fin1)) (dt rfl (gt' hb642 rfl (fb 0 U68 rfl rfl rfl rfl Z66 fin1)) (dt rfl (gt' hb642 rfl (ld G66 rfl rfl ((sS 4 rfl hK18).take 1) rfl fin1)) (dt rfl (gt' hb642 rfl (lnL U66 rfl rfl fin1)) (dt rfl (gt' hb642 rfl (gtI rfl rfl rfl fin1)) (dt rfl (pf hb642 rfl rfl fin1) (dt rfl (m1 rfl fin1) (dt rfl (gt' hb648 rfl (fb 0 U98 rfl rfl rfl rfl Z24 fin1)) (dt rfl (gt' hb648 rfl (ld G24 rfl rfl ((sS 1 rfl hK594).take 1) rfl fin1)) (dt rfl (gt' hb648 rfl (ldA G68 Z68 rfl rfl (sS 4 rfl hK18) rfl fin1)) ?_)))))))))))
            refine dt rfl (gt' hb648 rfl (m1 rfl fin1)) (dt rfl (gt' hb648 rfl (m1 rfl fin1)) (dt rfl (gt' hb648 rfl (fb 0 U98 rfl rfl rfl rfl Z24 fin1)) (dt rfl (gt' hb648 rfl (ld G24 rfl rfl ((sS 1 rfl hK594).take 1) rfl fin1)) (dt rfl (gt' hb648 rfl (lnL U24 rfl rfl fin1)) (dt rfl (gt' hb648 rfl (adI rfl rfl rfl hk646 fin1)) ?_)))))
            refine DF.und (α := Option Addr × Nat) (none, 0) (fun q => .slice q.1 r652.length q.2) (fun (q : Option Addr × Nat) K => Sl (Flat encS) 1 K q.1 q.2 r652) (fun _ _ _ h x => x.mono (Flat.mono _) h) (by kernel_rfl) rfl (fun a w K hS hA hF => TG.pa hS hA (gt' hb648 rfl (clK C47 rfl rfl rfl rfl (fun w H hH le => w47 hH r_2 (RReport.mono _ _ _ _ (le.at 6 rfl) hh_r_2) (s441.1 : Int) ((s441.1 : Int) + (x577.old_.length : Int)) hx653) (by
              rintro v_ K655 ⟨ad656, cap657, rfl, hl658⟩
              exact finU (f := fun q => .slice q.1 r652.length q.2) (G := (fun (q : Option Addr × Nat) K => Sl (Flat encS) 1 K q.1 q.2 r652)) (_, _) (fun _ _ _ h x => x.mono (Flat.mono _) h) hl658)))) ?_
            rintro ⟨ad660, cap661⟩
            refine DF.nil fun K662 hF => ?_
            obtain ⟨hu659, _⟩ := hF
            have := hu659.len
            refine gt' hb648 rfl ?_
            obtain ⟨r663, hx664, hr665⟩ := bd_some hr654
            refine clS C46 rfl rfl rfl rfl (fun w H hH le => w46 hH (hl588.mono (Flat.mono _) (le.at 3 rfl)) (hu659.mono (Flat.mono _) (le.at 0 rfl)) hx664) (gt' hb648 rfl (nt rfl rfl (pf hb648 rfl rfl (on ?_))))
            cases hr665
            intro a w hS hA
            exact ⟨hS.selH [1, 2, 3, 4, 5, 6] rfl, hA.cut ⟨rfl, rfl, rfl, rfl, rfl, rfl, rfl, rfl, rfl, tv⟩⟩
       ·rintro a w ⟨hS, hA⟩
        refine TG.ap ?_ hS hA
        refine cb rfl (fun hc669 => ?_) (fun hc669 => ?_)
        ·have hr670 := if_p hc669 hr631
         refine sq (rg (a1 rfl (on (rt_ ?_))))
         cases hr670
         obtain rfl := Fin.out hz444
         cases hr438
         intro a w hS hA
         refine ret1 hA rfl rfl ?_
         exact ⟨rfl, hS.ext⟩
        ·have hr671 := if_f hc669 hr631
         refine sk (sq (sq (rg (fb 2 U98 rfl rfl rfl rfl Z3 (ld G3 rfl rfl ((sS 0 rfl hK594).drop 2) rfl (ltI rfl rfl rfl (on ?_)))))))
         obtain ⟨t738, hx739, hr740⟩ := bd_some hr671
         refine jn (fun a w => ∃ t741, t738 = .inl t741 ∧ St M W H [K593, K135, K83, K17, K14, H] [(1, Own.list (some ⟨b173, 0, none⟩) requests.length 3 1 (encI .i64) t741)] w ∧ Has [] 212 a [(3, .slice ad_requests requests.length cap_requests), (6, .pointer (some q16)), (9, .slice (some p580) r70.1.length cap79), (11, .slice ad130 r122.1.length cap131), (13, .int .i64 (s441.1 : Int)), (14, .slice (some ⟨b173, 0, none⟩) ((List.replicate requests.length (0 : Int)).length) requests.length), (15, .int .i64 (s441.2.1 : Int)), (16, .pointer (some q592))] ∧ t741.length = (List.replicate requests.length (0 : Int)).length) ?_ ?_
         ·refine ci rfl (fun hc743 => ?_) (fun hc743 => ?_)
          ·have hr744 := if_p hc743 hx739
           refine sq ?_
           obtain ⟨t768, hx769, hr770⟩ := bd_some hr744
           refine jn (fun a w => St M W H [K593, K135, K83, K17, K14, H] [(1, Own.list (some ⟨b173, 0, none⟩) requests.length 3 1 (encI .i64) s441.2.2)] w ∧ Has [] 212 a [(3, .slice ad_requests requests.length cap_requests), (6, .pointer (some q16)), (9, .slice (some p580) r70.1.length cap79), (11, .slice ad130 r122.1.length cap131), (13, .int .i64 (s441.1 : Int)), (14, .slice (some ⟨b173, 0, none⟩) ((List.replicate requests.length (0 : Int)).length) requests.length), (15, .int .i64 (s441.2.1 : Int)), (16, .pointer (some q592)), (142, .bool t768)]) ?_ ?_
           ·refine rg (fb 0 U98 rfl rfl rfl rfl Z24 (ld G24 rfl rfl ((sS 0 rfl hK594).take 1) rfl (fb 1 U98 rfl rfl rfl rfl Z24 (ld G24 rfl rfl (((sS 0 rfl hK594).drop 1).take 1) rfl ?_))))
            obtain ⟨r771, hx772, hr773⟩ := bd_some hx769
            refine clS C46 rfl rfl rfl rfl (fun w H hH le => w46 hH (hl588.mono (Flat.mono _) (le.at 2 rfl)) (hl591.mono (Flat.mono _) (le.at 2 rfl)) hx772) (nt rfl rfl (m1 rfl ?_))
            rcases Bool.eq_false_or_eq_true (r771) with hb774 | hb774
            ·have hr775 := if_p hb774 hr773
             refine gN rfl rfl (congrArg not (hb774)) (m1 rfl (gN rfl rfl (congrArg not (hb774)) (gtI rfl rfl rfl (gN rfl rfl (congrArg not (hb774)) (m1 rfl ?_)))))
             by_cases hb776 : 0 < (s441.2.1 : Int)
             ·have hr777 := if_p hb776 hr775
              refine gt hb776 rfl (m1 rfl (gt hb776 rfl (m1 rfl (gt hb776 rfl (sbI rfl rfl rfl (by omega) (gt hb776 rfl ?_))))))
              obtain ⟨x778, hx779, hr780⟩ := bd_some hr777
              obtain ⟨cs781, hcs782, hq783, hr784⟩ := hu82.at hx779
              have hr785 := hr784
              obtain ⟨ad786, cap787, ad789, cap790, rfl, hl788, hl791⟩ := hr784
              have := hl788.len
              have := hl791.len
              refine iaP U91 Z98 rfl rfl rfl (by omega) (lt_of hx779) (gt hb776 rfl (fb 2 U98 rfl rfl rfl rfl Z3 (gt hb776 rfl (ld G3 rfl rfl ((sS 2 rfl hq783).drop 2) rfl (gt hb776 rfl (ltI rfl rfl rfl (gN rfl rfl (congrArg not (hb774)) (pt hb776 rfl rfl (pF rfl rfl (congrArg not (hb774)) rfl (on ?_))))))))))
              cases hr780
              exact cu ⟨rfl, rfl, rfl, rfl, rfl, rfl, rfl, rfl, rfl, tv⟩
             ·have hr792 := if_n hb776 hr775
              refine gf hb776 rfl (gf hb776 rfl (gf hb776 rfl (gf hb776 rfl (gf hb776 rfl (gf hb776 rfl (gf hb776 rfl (gN rfl rfl (congrArg not (hb774)) (pf hb776 rfl rfl (pF rfl rfl (congrArg not (hb774)) rfl (on ?_))))))))))
              cases hr792
              exact cu ⟨rfl, rfl, rfl, rfl, rfl, rfl, rfl, rfl, rfl, tv⟩
            ·have hr793 := if_f hb774 hr773
             refine gF rfl rfl (congrArg not (hb774)) rfl (gF rfl rfl (congrArg not (hb774)) rfl (gF rfl rfl (congrArg not (hb774)) rfl (gU rfl rfl rfl (gU rfl rfl rfl (gU rfl rfl rfl (gU rfl rfl rfl (gU rfl rfl rfl (gU rfl rfl rfl (gU rfl rfl rfl (gF rfl rfl (congrArg not (hb774)) rfl (pT rfl rfl (congrArg not (hb774)) rfl ?_)))))))))))
             refine on ?_
             cases hr793
             exact cu ⟨rfl, rfl, rfl, rfl, rfl, rfl, rfl, rfl, rfl, tv⟩
           ·rintro a w ⟨hS, hA⟩
            refine TG.ap ?_ hS hA
            refine cb rfl (fun hc797 => ?_) (fun hc797 => ?_)
            ·have hr798 := if_p hc797 hr770
             refine sq (rg (a1 rfl (on (rt_ ?_))))
             cases hr798
             cases hr740
             obtain rfl := Fin.out hz444
             cases hr438
             intro a w hS hA
             refine ret1 hA rfl rfl ?_
             exact ⟨rfl, hS.ext⟩
            ·have hr799 := if_f hc797 hr770
             refine sk ?_
             cases hr799
             intro a w hS hA
             exact ⟨_, rfl, hS, hA.cut ⟨rfl, rfl, rfl, rfl, rfl, rfl, rfl, rfl, tv⟩, hln442⟩
          ·have hr800 := if_n hc743 hx739
           refine sq (rg (m1 rfl (fb 2 U98 rfl rfl rfl rfl Z3 (ld G3 rfl rfl ((sS 0 rfl hK594).drop 2) rfl ?_))))
           obtain ⟨hk801, hr802⟩ := chk_some hr800
           obtain ⟨x803, hx804, hr805⟩ := bd_some hr802
           obtain ⟨p806, rfl⟩ := h_requests.adr hx804
           obtain ⟨cs807, hcs808, hq809, hr810⟩ := h_requests.at hx804
           have hr811 := hr810
           obtain ⟨ad812, cap813, rfl, hl814⟩ := hr810
           have := hl814.len
           refine iaP U69 Z73 rfl rfl rfl (by omega) (lt_of hx804) (ldA G73 Z73 rfl rfl (sS 5 rfl hq809) rfl (va (cs := [.int .i64 x803.by_, .int .i64 x803.minute, .int .i64 x803.from_, .int .i64 x803.cut, .slice ad812 x803.put_.length cap813]) Tryz.zeroValue73 Z73 rfl rfl rfl rfl rfl rfl rfl rfl fun q815 K816 hK817 => (on (sq (sq ?_)))))
           obtain ⟨t827, hx828, hr829⟩ := bd_some hr805
           refine jn (fun a w => St M W H [K816, K593, K135, K83, K17, K14, H] [(1, Own.list (some ⟨b173, 0, none⟩) requests.length 3 1 (encI .i64) s441.2.2)] w ∧ Has [] 212 a [(3, .slice (some p806) requests.length cap_requests), (6, .pointer (some q16)), (9, .slice (some p580) r70.1.length cap79), (11, .slice ad130 r122.1.length cap131), (13, .int .i64 (s441.1 : Int)), (14, .slice (some ⟨b173, 0, none⟩) ((List.replicate requests.length (0 : Int)).length) requests.length), (15, .int .i64 (s441.2.1 : Int)), (16, .pointer (some q592)), (167, .bool t827)]) ?_ ?_
           ·refine rg (fb 2 U73 rfl rfl rfl rfl Z3 (ld G3 rfl rfl (((sS 0 rfl hK817).drop 2).take 1) rfl (m1 rfl (neI rfl rfl rfl (m1 rfl ?_)))))
            by_cases hb830 : x803.from_ ≠ (s441.1 : Int)
            ·have hr831 := if_p hb830 hx828
             refine gf' hb830 rfl (gf' hb830 rfl (gf' hb830 rfl (gf' hb830 rfl (gf' hb830 rfl (gf' hb830 rfl (pt hb830 rfl rfl (m1 rfl (gF rfl rfl rfl rfl (gF rfl rfl rfl rfl (gF rfl rfl rfl rfl (gF rfl rfl rfl rfl ?_)))))))))))
             refine gF rfl rfl rfl rfl (gF rfl rfl rfl rfl (pT rfl rfl rfl rfl (on ?_)))
             cases hr831
             exact cu ⟨rfl, rfl, rfl, rfl, rfl, rfl, rfl, rfl, rfl, tv⟩
            ·have hr832 := if_n hb830 hx828
             refine gt' hb830 rfl (fb 3 U73 rfl rfl rfl rfl Z3 (gt' hb830 rfl (ld G3 rfl rfl (((sS 0 rfl hK817).drop 3).take 1) rfl (gt' hb830 rfl (fb 0 U98 rfl rfl rfl rfl Z24 (gt' hb830 rfl (ld G24 rfl rfl ((sS 1 rfl hK594).take 1) rfl (gt' hb830 rfl (lnL U24 rfl rfl (gt' hb830 rfl (neI rfl rfl rfl ?_)))))))))))
             refine pf hb830 rfl rfl (m1 rfl ?_)
             by_cases hb833 : x803.cut ≠ (x577.old_.length : Int)
             ·have hr834 := if_p hb833 hr832
              refine gf' hb833 rfl (gf' hb833 rfl (gf' hb833 rfl (gf' hb833 rfl (gf' hb833 rfl (gf' hb833 rfl (pt hb833 rfl rfl (on ?_)))))))
              cases hr834
              exact cu ⟨rfl, rfl, rfl, rfl, rfl, rfl, rfl, rfl, rfl, tv⟩
             ·have hr835 := if_n hb833 hr832
              refine gt' hb833 rfl (fb 4 U73 rfl rfl rfl rfl Z24 (gt' hb833 rfl (ld G24 rfl rfl ((sS 0 rfl hK817).drop 4) rfl (gt' hb833 rfl (fb 1 U98 rfl rfl rfl rfl Z24 (gt' hb833 rfl (ld G24 rfl rfl (((sS 1 rfl hK594).drop 1).take 1) rfl (gt' hb833 rfl ?_))))))))
              obtain ⟨r836, hx837, hr838⟩ := bd_some hr835
              refine clS C46 rfl rfl rfl rfl (fun w H hH le => w46 hH (hl814.mono (Flat.mono _) (le.at 6 rfl)) (hl591.mono (Flat.mono _) (le.at 3 rfl)) hx837) (gt' hb833 rfl (nt rfl rfl (pf hb833 rfl rfl (on ?_))))
              cases hr838
              exact cu ⟨rfl, rfl, rfl, rfl, rfl, rfl, rfl, rfl, rfl, tv⟩
           ·rintro a w ⟨hS, hA⟩
            refine TG.ap ?_ hS hA
            refine cb rfl (fun hc842 => ?_) (fun hc842 => ?_)
            ·have hr843 := if_p hc842 hr829
             refine sq (rg (a1 rfl (on (rt_ ?_))))
             cases hr843
             cases hr740
             obtain rfl := Fin.out hz444
             cases hr438
             intro a w hS hA
             refine ret1 hA rfl rfl ?_
             exact ⟨rfl, hS.ext⟩
            ·have hr844 := if_f hc842 hr829
             refine sk (rg (m1 rfl (fb 2 U98 rfl rfl rfl rfl Z3 (ld G3 rfl rfl ((sS 1 rfl hK594).drop 2) rfl ?_))))
             obtain ⟨x845, hx846, hr847⟩ := bd_some hr844
             refine iaP U86 Z3 rfl rfl rfl (by omega) (Nat.lt_of_lt_of_eq (lt_of hx846) hln442) (ld G3 rfl rfl (sE 1 rfl (fun _ => rfl) hx846) rfl ?_)
             obtain ⟨hk848, hr849⟩ := chk_some hr847
             refine adI rfl rfl rfl hk848 (iaP U86 Z3 rfl rfl rfl (by omega) (Nat.lt_of_lt_of_eq (lt_of hx846) hln442) ?_)
             have hln850 : (s441.2.2.set x577.request.toNat (x845 + 1)).length = (List.replicate requests.length (0 : Int)).length := (lenS _ _ _).trans hln442
             refine stE 1 (x845 + 1) (q := ⟨b173, 0, none⟩) (j := x577.request.toNat) (size := 1) (cs := [.int .i64 (x845 + 1)]) (off := 0) Z3 rfl rfl rfl (fun _ => rfl) hx846 rfl rfl rfl rfl rfl (on ?_)
             cases hr849
             intro a w hS hA
             exact ⟨_, rfl, hS.selH [1, 2, 3, 4, 5, 6] rfl, hA.cut ⟨rfl, rfl, rfl, rfl, rfl, rfl, rfl, rfl, tv⟩, hln850⟩
         ·rintro a w ⟨t741, rfl, hS, hA, hln742⟩
          refine TG.ap ?_ hS hA
          refine rg (m1 rfl (fb 0 U98 rfl rfl rfl rfl Z24 (ld G24 rfl rfl ((sS 0 rfl hK594).take 1) rfl (lnL U24 rfl rfl ?_))))
          obtain ⟨hk851, hr852⟩ := chk_some hr740
          refine adI rfl rfl rfl hk851 (a1 rfl (on (rg (m1 rfl (adI rfl rfl rfl (by omega) (a1 rfl (on ?_)))))))
          cases hr852
          intro a w hS hA
          exact ⟨_, hz444, hS.selH [1, 2, 3, 4, 5] rfl, hA.cut ⟨rfl, rfl, rfl, rfl, rfl, rfl, rfl, tv⟩, hln742⟩
      ·have hr853 := if_n hc449 hr443
       refine xt rfl ?_
       cases hr853
       obtain rfl := Fin.out hz444
       intro a w hS hA
       exact ⟨_, rfl, hS, hA.cut ⟨rfl, rfl, rfl, rfl, tv⟩, hln442⟩
    ·rintro a w ⟨t439, rfl, hS, hA, hln440⟩
     refine TG.ap ?_ hS hA
     refine sq (sq (rg (a1 rfl (on ?_))))
     obtain ⟨e878, hl879, hr880⟩ := bd_some hr438
     refine jn (fun a w => ∃ t881, e878 = .inl t881 ∧ St M W H [K135, K83, K17, K14, H] [(1, Own.list (some ⟨b173, 0, none⟩) requests.length 3 1 (encI .i64) t439.2)] w ∧ Has [] 212 a [(6, .pointer (some q16)), (13, .int .i64 (t439.1 : Int))]) ?_ ?_
     ·refine bk ?_
      refine lp hl879 (fun s882 a w => St M W H [K135, K83, K17, K14, H] [(1, Own.list (some ⟨b173, 0, none⟩) requests.length 3 1 (encI .i64) t439.2)] w ∧ Has [] 212 a [(6, .pointer (some q16)), (11, .slice ad130 r122.1.length cap131), (13, .int .i64 (t439.1 : Int)), (14, .slice (some ⟨b173, 0, none⟩) ((List.replicate requests.length (0 : Int)).length) requests.length), (18, .int .i64 (s882 : Int))]) ?_ ?_
      ·exact cu ⟨rfl, rfl, rfl, rfl, rfl, tv⟩
      ·rintro j s882 y885 hr883 hz884 a w ⟨hS, hA⟩
       refine TG.ap ?_ hS hA
       unfold m12_2 at hr883
       refine sq (sq (rg (m1 rfl (m1 rfl (lnL U86 rfl rfl (ltI rfl rfl rfl (on ?_)))))))
       refine ci rfl (fun hc889 => ?_) (fun hc889 => ?_)
       ·have hr890 := if_p hc889 hr883
        refine sk (sq (bk (sq ?_)))
        obtain ⟨t927, hx928, hr929⟩ := bd_some hr890
        refine jn (fun a w => St M W H [K135, K83, K17, K14, H] [(1, Own.list (some ⟨b173, 0, none⟩) requests.length 3 1 (encI .i64) t439.2)] w ∧ Has [] 212 a [(6, .pointer (some q16)), (11, .slice ad130 r122.1.length cap131), (13, .int .i64 (t439.1 : Int)), (14, .slice (some ⟨b173, 0, none⟩) ((List.replicate requests.length (0 : Int)).length) requests.length), (18, .int .i64 (s882 : Int)), (203, .bool t927)]) ?_ ?_
        ·obtain ⟨x930, hx931, hr932⟩ := bd_some hx928
         obtain ⟨x933, hx934, hr935⟩ := bd_some hr932
         obtain ⟨p936, rfl⟩ := hu134.adr hx934
         obtain ⟨cs937, hcs938, hq939, hr940⟩ := hu134.at hx934
         obtain rfl := hr940
         rcases Bool.eq_false_or_eq_true (decide (x930 = 1) == decide (x933 = 0)) with hb941 | hb941
         ·have hr942 := if_p hb941 hr935
          refine drG 14 mixed (by kernel_rfl) rfl (dt rfl (m1 rfl fin1) (dt rfl (m1 rfl fin1) (dt rfl (iaP U86 Z3 rfl rfl rfl rfl (Nat.lt_of_lt_of_eq (lt_of hx931) hln440) fin1) (dt rfl (ld G3 rfl rfl (sE 1 rfl (fun _ => rfl) hx931) rfl fin1) (dt rfl (eqI rfl rfl rfl fin1) (dt rfl (m1 rfl fin1) (dt rfl (m1 rfl fin1) (dt rfl (iaP U59 Z31 rfl rfl rfl rfl (lt_of hx934) fin1) (dt rfl (ld G31 rfl rfl (sS 1 rfl hq939) rfl fin1) (dt rfl (eqI rfl rfl rfl fin1) (dt rfl (neB U4 rfl rfl rfl fin1) ?_)))))))))))
          refine dt rfl (m1 rfl fin1) (dt rfl (gN rfl rfl (congrArg not (hb941)) (m1 rfl fin1)) (dt rfl (gN rfl rfl (congrArg not (hb941)) (m1 rfl fin1)) (DF.nil fun K943 hF => (gN rfl rfl (congrArg not (hb941)) (iaP U86 Z3 rfl rfl rfl rfl (Nat.lt_of_lt_of_eq (lt_of hx931) hln440) (gN rfl rfl (congrArg not (hb941)) (ld G3 rfl rfl (sE 1 rfl (fun _ => rfl) hx931) rfl (gN rfl rfl (congrArg not (hb941)) (gtI rfl rfl rfl (pF rfl rfl (congrArg not (hb941)) rfl (on ?_)))))))))))
          cases hr942
          intro a w hS hA
          exact ⟨hS.selH [1, 2, 3, 4, 5] rfl, hA.cut ⟨rfl, rfl, rfl, rfl, rfl, rfl, tv⟩⟩
         ·have hr944 := if_f hb941 hr935
          refine drG 14 mixed (by kernel_rfl) rfl (dt rfl (m1 rfl fin1) (dt rfl (m1 rfl fin1) (dt rfl (iaP U86 Z3 rfl rfl rfl rfl (Nat.lt_of_lt_of_eq (lt_of hx931) hln440) fin1) (dt rfl (ld G3 rfl rfl (sE 1 rfl (fun _ => rfl) hx931) rfl fin1) (dt rfl (eqI rfl rfl rfl fin1) (dt rfl (m1 rfl fin1) (dt rfl (m1 rfl fin1) (dt rfl (iaP U59 Z31 rfl rfl rfl rfl (lt_of hx934) fin1) (dt rfl (ld G31 rfl rfl (sS 1 rfl hq939) rfl fin1) (dt rfl (eqI rfl rfl rfl fin1) (dt rfl (neB U4 rfl rfl rfl fin1) ?_)))))))))))
          refine dt rfl (m1 rfl fin1) (dt rfl (gF rfl rfl (congrArg not (hb941)) rfl fin1) (dt rfl (gF rfl rfl (congrArg not (hb941)) rfl fin1) (DF.nil fun K945 hF => (gF rfl rfl (congrArg not (hb941)) rfl (gF rfl rfl (congrArg not (hb941)) rfl (gF rfl rfl (congrArg not (hb941)) rfl (pT rfl rfl (congrArg not (hb941)) rfl (on ?_))))))))
          cases hr944
          intro a w hS hA
          exact ⟨hS.selH [1, 2, 3, 4, 5] rfl, hA.cut ⟨rfl, rfl, rfl, rfl, rfl, rfl, tv⟩⟩
        ·rintro a w ⟨hS, hA⟩
         refine TG.ap ?_ hS hA
         refine cb rfl (fun hc949 => ?_) (fun hc949 => ?_)
         ·have hr950 := if_p hc949 hr929
          refine sq (rg (a1 rfl (on (rt_ ?_))))
          cases hr950
          obtain rfl := Fin.out hz884
          cases hr880
          intro a w hS hA
          refine ret1 hA rfl rfl ?_
          exact ⟨rfl, hS.ext⟩
         ·have hr951 := if_f hc949 hr929
          refine sk (rg (m1 rfl (adI rfl rfl rfl (by omega) (a1 rfl (on ?_)))))
          cases hr951
          intro a w hS hA
          exact ⟨_, hz884, hS, hA.cut ⟨rfl, rfl, rfl, rfl, rfl, tv⟩⟩
       ·have hr952 := if_n hc889 hr883
        refine xt rfl ?_
        cases hr952
        obtain rfl := Fin.out hz884
        intro a w hS hA
        exact ⟨_, rfl, hS, hA.cut ⟨rfl, rfl, tv⟩⟩
     ·rintro a w ⟨t881, rfl, hS, hA⟩
      refine TG.ap ?_ hS hA
      refine sq ?_
      obtain ⟨t959, hx960, hr961⟩ := bd_some hr880
      refine jn (fun a w => St M W H [K135, K83, K17, K14, H] [(1, Own.list (some ⟨b173, 0, none⟩) requests.length 3 1 (encI .i64) t439.2)] w ∧ Has [] 212 a [(8, .bool t959)]) ?_ ?_
      ·refine rg (m1 rfl (fb 0 U68 rfl rfl rfl rfl Z66 (ld G66 rfl rfl ((sS 2 rfl hK18).take 1) rfl (lnL U66 rfl rfl (eqI rfl rfl rfl (m1 rfl ?_))))))
       by_cases hb962 : (t439.1 : Int) = (r_2.words.length : Int)
       ·have hr963 := if_p hb962 hx960
        refine gt hb962 rfl ?_
        obtain ⟨r964, hx965, hr966⟩ := bd_some hr963
        refine clS C17 rfl rfl rfl rfl (fun w H hH le => w17 hH (hg.mono (le.at 4 rfl))  hx965) (pt hb962 rfl rfl (a1 rfl (on ?_)))
        cases hr966
        exact cu ⟨rfl, tv⟩
       ·have hr967 := if_n hb962 hx960
        refine gf hb962 rfl (pf hb962 rfl rfl (a1 rfl (on ?_)))
        cases hr967
        exact cu ⟨rfl, tv⟩
      ·rintro a w ⟨hS, hA⟩
       refine TG.ap ?_ hS hA
       refine rt_ ?_
       cases hr961
       intro a w hS hA
       refine ret1 hA rfl rfl ?_
       exact ⟨rfl, hS.ext⟩

end T4
