/-
 Walks of functions of layer 4: each call comes to what the model says. Printed by a program of ours.
-/
import Derived.Test.YtelimceikglofaaGreatDoorWalkB
set_option linter.all false
set_option maxHeartbeats 4000000
namespace T4
open Go Go.Proofs Pk
theorem w42 {M : Prop} {W : World} {H : Hp} (hH : H.le (hp W)) (hg : Gv M H) {cs_l_0 : List Value} (l_0 : Lexicon) (h_l_0 : (RLexicon) H cs_l_0 l_0) {ad_swaps : Option Addr} {cap_swaps : Nat} {swaps : List Swap} (h_swaps : Sl (Flat encSwap) 3 H ad_swaps cap_swaps swaps) {cs_r_2 : List Value} (r_2 : Report) (h_r_2 : (RReport) H cs_r_2 r_2) {ad_requests : Option Addr} {cap_requests : Nat} {requests : List Request} (h_requests : Sl (RRequest) 5 H ad_requests cap_requests requests) {r : List Segment × Int} (hr : m42 l_0 swaps r_2 requests = some r) : Calls Tryz.prog 42 [.agg cs_l_0.toArray, .slice ad_swaps swaps.length cap_swaps, .agg cs_r_2.toArray, .slice ad_requests requests.length cap_requests].toArray W (RetK M H W (fun v K => ∃ (ad0 : Option Addr) (cap0 : Nat), v = .tuple [.slice ad0 r.1.length cap0, .int .i64 r.2].toArray ∧ Sl (RSegment) 3 K ad0 cap0 r.1)) := by
 have hh_l_0 := h_l_0
 obtain ⟨ad1, cap2, ad4, cap5, ad7, cap8, rfl, hl3, hl6, hl9⟩ := h_l_0
 have := hl3.len
 have := hl6.len
 have := hl9.len
 have := h_swaps.len
 have hh_r_2 := h_r_2
 obtain ⟨ad10, cap11, rfl, hl12⟩ := h_r_2
 have := hl12.len
 have := h_requests.len
 unfold m42 at hr
 refine enterG (M := M) Tryz.func42 rfl Tryz.ntmps42 rfl hH ?_
 refine sq (rg (bI (cs := [.slice ad1 l_0.numbers.length cap2, .slice ad4 l_0.names.length cap5, .slice ad7 l_0.nots.length cap8]) rfl rfl rfl fun q13 K14 hK15 => (bI (cs := [.slice ad10 r_2.words.length cap11, .int .i64 r_2.out, .int .i64 r_2.within]) rfl rfl rfl fun q16 K17 hK18 => (bI (cs := [.slice ad_requests requests.length cap_requests]) rfl rfl rfl fun q19 K20 hK21 => (a1 rfl (a1 rfl (on (sq (rg (ldA G36 Z36 rfl rfl (sS 2 rfl hK15) rfl (m1 rfl ?_)))))))))))
 refine ldA G56 Z56 rfl rfl (sS 1 rfl hK18) rfl (ld G64 rfl rfl (sS 0 rfl hK21) rfl ?_)
 obtain ⟨t1085, hx1086, hr1087⟩ := bd_some hr
 refine clI C59 Tryz.func59 rfl Tryz.ntmps59 rfl rfl rfl rfl (fun v w => (∃ (t1088 : Int), t1085 = (.inl t1088) ∧ v = .tuple [.pointer none, .int .i64 t1088].toArray ∧ St M W H [K20, K17, K14, H] [] w) ∨ (∃ (t1089 : List Int × List Request × List Said × (List (Bytes × Mark)) × List Swap × List Int), t1085 = (.inr t1089) ∧ ∃ (b1090 : Nat) (ad1091 : Option Addr) (cap1092 : Nat) (ad1093 : Option Addr) (cap1094 : Nat) (css1095 : List (List Value)) (K1096 : Hp) (ad1098 : Option Addr) (cap1099 : Nat) (K1100 : Hp) (mp1102 : Value) (K1103 : Hp) (ad1105 : Option Addr) (cap1106 : Nat) (K1107 : Hp) (ad1109 : Option Addr) (cap1110 : Nat), v = .tuple [.pointer (some (⟨b1090, 0, none⟩)), .int .i64 0].toArray ∧ St M W H [K1096, K1100, K1103, K1107, K20, K17, K14, H] [(8, Own.list ad1091 cap1092 3 1 (encI .i64) t1089.1), (7, Own.rows ad1093 cap1094 63 5 css1095 t1089.2.1), (2, cel b1090 133 [.slice ad1098 t1089.2.2.1.length cap1099, .int .i64 r_2.out, .int .i64 r_2.within, mp1102, .slice ad1105 t1089.2.2.2.2.1.length cap1106, .slice ad1093 t1089.2.1.length cap1094, .slice ad1091 t1089.1.length cap1092, .slice ad1109 t1089.2.2.2.2.2.length cap1110]), (1, Own.list ad1109 cap1110 31 1 (encI .i64) t1089.2.2.2.2.2)] w ∧ Rows (RRequest) 5 K1096 css1095 t1089.2.1 ∧ Sl (Flat encSaid) 2 K1100 ad1098 cap1099 t1089.2.2.1 ∧ Mp keS (fun x => Value.agg (encMark x).toArray) K1103 mp1102 t1089.2.2.2.1 ∧ Sl (Flat encSwap) 3 K1107 ad1105 cap1106 t1089.2.2.2.2.1)) ?_ ?_
 ·refine sq (rg (bI (cs := [.slice ad1 l_0.numbers.length cap2, .slice ad4 l_0.names.length cap5, .slice ad7 l_0.nots.length cap8]) rfl rfl rfl fun q1111 K1112 hK1113 => (bI (cs := [.slice ad10 r_2.words.length cap11, .int .i64 r_2.out, .int .i64 r_2.within]) rfl rfl rfl fun q1114 K1115 hK1116 => (bI (cs := [.slice ad_requests requests.length cap_requests]) rfl rfl rfl fun q1117 K1118 hK1119 => (a1 rfl (a1 rfl (on (sq (rg (ldA G36 Z36 rfl rfl (sS 2 rfl hK1113) rfl (m1 rfl ?_)))))))))))
  obtain ⟨r1120, hx1121, hr1122⟩ := bd_some hx1086
  refine clK C51 rfl rfl rfl rfl (fun w H hH le => w51 hH l_0 (RLexicon.mono _ _ _ _ (le.at 6 rfl) hh_l_0) (h_swaps.mono (Flat.mono _) (le.at 6 rfl)) hx1121) ?_
  rintro v_ K1123 ⟨cs1124, rfl, hr1125⟩
  have hr1126 := hr1125
  obtain ⟨mp1127, ad1129, cap1130, rfl, hm1128, hl1131⟩ := hr1125
  have := hl1131.len
  refine m1 rfl (ex rfl rfl rfl (ex rfl rfl rfl ?_))
  obtain ⟨b1132, rfl⟩ := Mp.isMap hm1128
  refine va (cs := [.map b1132, .slice ad1129 r1120.1.swaps.length cap1130]) Tryz.zeroValue117 Z117 rfl rfl rfl rfl rfl rfl rfl rfl fun q1133 K1134 hK1135 => (a1 rfl (on (sq (sq (rg (m1 rfl (neI rfl rfl rfl (on ?_))))))))
  refine ci rfl (fun hc1139 => ?_) (fun hc1139 => ?_)
  ·have hr1140 := if_p hc1139 hr1122
   refine sq (rg (m1 rfl (a1 rfl (a1 rfl (on (rt_ ?_))))))
   cases hr1140
   intro a w hS hA
   refine ret2 hA rfl rfl rfl ?_
   exact ⟨_, rfl, .inl ⟨_, rfl, rfl, hS.selH [5, 6, 7, 8] rfl⟩⟩
  ·have hr1141 := if_n hc1139 hr1122
   refine sk (sq (sq (rg (ldA G56 Z56 rfl rfl (sS 3 rfl hK1116) rfl ?_))))
   obtain ⟨r1142, hx1143, hr1144⟩ := bd_some hr1141
   refine clS C61 rfl rfl rfl rfl (fun w H hH le => w61 hH r_2 (RReport.mono _ _ _ _ (le.at 8 rfl) hh_r_2) hx1143) (a1 rfl (on (sq (rg (m1 rfl (neI rfl rfl rfl (on ?_)))))))
   refine ci rfl (fun hc1148 => ?_) (fun hc1148 => ?_)
   ·have hr1149 := if_p hc1148 hr1144
    refine sq (rg (m1 rfl (a1 rfl (a1 rfl (on (rt_ ?_))))))
    cases hr1149
    intro a w hS hA
    refine ret2 hA rfl rfl rfl ?_
    exact ⟨_, rfl, .inl ⟨_, rfl, rfl, hS.selH [5, 6, 7, 8] rfl⟩⟩
   ·have hr1150 := if_n hc1148 hr1144
    refine sk (sq (sq (rg (ld G64 rfl rfl (sS 2 rfl hK1119) rfl (lnL U64 rfl rfl (gtI rfl rfl rfl (on ?_)))))))
    refine ci rfl (fun hc1154 => ?_) (fun hc1154 => ?_)
    ·have hr1155 := if_p hc1154 hr1150
     refine sq (rg (a1 rfl (a1 rfl (on (rt_ ?_)))))
     cases hr1155
     intro a w hS hA
     refine ret2 hA rfl rfl rfl ?_
     exact ⟨_, rfl, .inl ⟨_, rfl, rfl, hS.selH [5, 6, 7, 8] rfl⟩⟩
    ·have hr1156 := if_n hc1154 hr1150
     refine sk (sq ?_)
     obtain ⟨hk1157, hr1158⟩ := chk_some hr1156
     have : (List.replicate requests.length (0 : Int)).length = requests.length := List.length_replicate
     refine drG2 5 4 mixed (by kernel_rfl) rfl rfl (DG.detA rfl rfl rfl (fun τ a w K hS hA hF => TG.pa hS hA (ldA G56 Z56 rfl rfl (sS 4 rfl hK1116) rfl fin1)) (DG.detA rfl rfl rfl (fun τ a w K hS hA hF => TG.pa hS hA (ldA G117 Z117 rfl rfl (sS 1 rfl hK1135) rfl fin1)) (DG.det (fun τ => τ = []) rfl rfl (.inr (by kernel_rfl)) (fun _ h => by cases h) rfl rfl (fun τ hτ a w K hS hA hF => by subst hτ <;> exact TG.pa hS hA (ld G64 rfl rfl (sS 3 rfl hK1119) rfl fin1)) (DG.det (fun τ => τ = []) rfl rfl (.inr (by kernel_rfl)) (fun _ h => by cases h) rfl rfl (fun τ hτ a w K hS hA hF => by subst hτ <;> exact TG.pa hS hA (lnL U64 rfl rfl fin1)) (DG.turn (α := Nat) 0 (fun b1159 => .slice (some ⟨b1159, 0, none⟩) ((List.replicate requests.length (0 : Int)).length) requests.length) (fun _ _ => True) (fun b1159 => [(1, Own.list (some ⟨b1159, 0, none⟩) requests.length 31 1 (encI .i64) (List.replicate requests.length (0 : Int)))]) rfl (fun _ _ _ _ h => h) (by kernel_rfl) rfl rfl (fun a w K hS hA hF => TG.pa hS hA (mkL 1 (encI .i64) (0 : Int) T4.E59 rfl rfl rfl rfl rfl rfl rfl hk1157 fun b1159 => finT (f := fun b1159 => .slice (some ⟨b1159, 0, none⟩) ((List.replicate requests.length (0 : Int)).length) requests.length) (G := fun _ _ => True) (σ1 := fun b1159 => [(1, Own.list (some ⟨b1159, 0, none⟩) requests.length 31 1 (encI .i64) (List.replicate requests.length (0 : Int)))]) b1159 tv)) fun b1159 => (DG.nil fun K1160 hF => ?_))))))
     obtain ⟨_, _⟩ := hF
     refine bu (cs := [.slice ad10 r_2.words.length cap11, .int .i64 r_2.out, .int .i64 r_2.within, .map b1132, .slice ad1129 r1120.1.swaps.length cap1130, .slice none 0 0, .slice none 0 0, .slice (some ⟨b1159, 0, none⟩) ((List.replicate requests.length (0 : Int)).length) requests.length]) T4.B133 rfl rfl rfl (bO 2 rfl rfl rfl fun b1161 => (a1 rfl (on (sq (rg (a1 rfl (on (sq (sq (rg (ld G64 rfl rfl (sS 3 rfl hK1119) rfl ?_)))))))))))
     refine lnL U64 rfl rfl (m1 rfl (on (TG.nilRow 4 3 1 (TG.as 4 (z := Own.list none 0 3 1 (encI .i64) ([] : List Int)) rfl rfl ?_))))
     obtain ⟨e1195, hl1196, hr1197⟩ := bd_some hr1158
     refine jn (fun a w => ∃ (ad1198 : Option Addr) (cap1199 : Nat), St M W H [K1160, K1134, K1123, K1118, K1115, K1112, K20, K17, K14, H] [(4, Own.list ad1198 cap1199 3 1 (encI .i64) e1195), (2, cel b1161 133 [.slice ad10 r_2.words.length cap11, .int .i64 r_2.out, .int .i64 r_2.within, .map b1132, .slice ad1129 r1120.1.swaps.length cap1130, .slice none 0 0, .slice none 0 0, .slice (some ⟨b1159, 0, none⟩) ((List.replicate requests.length (0 : Int)).length) requests.length]), (1, Own.list (some ⟨b1159, 0, none⟩) requests.length 31 1 (encI .i64) (List.replicate requests.length (0 : Int)))] w ∧ Has [] 106 a [(7, .pointer (some q1117)), (13, .pointer (some (⟨b1161, 0, none⟩))), (14, .slice ad1198 e1195.length cap1199)]) ?_ ?_
     ·refine bk ?_
      refine lp hl1196 (fun s1200 a w => ∃ (ad1201 : Option Addr) (cap1202 : Nat), St M W H [K1160, K1134, K1123, K1118, K1115, K1112, K20, K17, K14, H] [(4, Own.list ad1201 cap1202 3 1 (encI .i64) s1200.2), (2, cel b1161 133 [.slice ad10 r_2.words.length cap11, .int .i64 r_2.out, .int .i64 r_2.within, .map b1132, .slice ad1129 r1120.1.swaps.length cap1130, .slice none 0 0, .slice none 0 0, .slice (some ⟨b1159, 0, none⟩) ((List.replicate requests.length (0 : Int)).length) requests.length]), (1, Own.list (some ⟨b1159, 0, none⟩) requests.length 31 1 (encI .i64) (List.replicate requests.length (0 : Int)))] w ∧ Has [] 106 a [(7, .pointer (some q1117)), (13, .pointer (some (⟨b1161, 0, none⟩))), (14, .slice ad1201 s1200.2.length cap1202), (43, .int .i64 (requests.length : Int)), (44, .int .i64 (s1200.1 : Int))]) ?_ ?_
      ·intro a w hS hA
       exact ⟨none, 0, hS, hA.cut ⟨rfl, rfl, rfl, rfl, rfl, tv⟩⟩
      ·rintro j s1200 y1205 hr1203 hz1204 a w ⟨ad1201, cap1202, hS, hA⟩
       refine TG.ap ?_ hS hA
       unfold m42_1 at hr1203
       refine sq (rg (ltI rfl rfl rfl (on (sq ?_))))
       refine ci rfl (fun hc1209 => ?_) (fun hc1209 => ?_)
       ·have hr1210 := if_p hc1209 hr1203
        refine sk (sq (bk (sq (rg (m1 rfl (a1 rfl (on (rg (m1 rfl (m1 rfl ?_))))))))))
        obtain ⟨hk1216, hr1217⟩ := chk_some hr1210
        have := lenA s1200.2 [(s1200.1 : Int)]
        refine ap1 4 (encI .i64) (l := s1200.2) (s1200.1 : Int) T4.E86 rfl rfl rfl rfl rfl rfl rfl rfl rfl rfl rfl rfl hk1216 fun ad1218 cap1219 u1220 => (a1 rfl (on (rg (adI rfl rfl rfl (by omega) (m1 rfl (on ?_))))))
        cases hr1217
        intro a w hS hA
        exact ⟨_, hz1204, ad1218, cap1219, hS, hA.cut ⟨rfl, rfl, rfl, rfl, rfl, tv⟩⟩
       ·have hr1221 := if_n hc1209 hr1203
        refine xt rfl ?_
        cases hr1221
        obtain rfl := Fin.out hz1204
        intro a w hS hA
        exact ⟨ad1201, cap1202, hS, hA.cut ⟨rfl, rfl, rfl, tv⟩⟩
     ·rintro a w ⟨ad1198, cap1199, hS, hA⟩
      refine TG.ap ?_ hS hA
      refine sq (rg (m1 rfl (fn rfl rfl rfl ?_)))
      obtain ⟨t1889, hx1890, hr1891⟩ := bd_some hr1197
      refine clI C87 Tryz.func87 rfl Tryz.ntmps87 rfl rfl rfl rfl (fun v w => (v = .tuple #[] ∧ St M W H [K1160, K1134, K1123, K1118, K1115, K1112, K20, K17, K14, H] [(4, Own.list ad1198 cap1199 3 1 (encI .i64) t1889), (2, cel b1161 133 [.slice ad10 r_2.words.length cap11, .int .i64 r_2.out, .int .i64 r_2.within, .map b1132, .slice ad1129 r1120.1.swaps.length cap1130, .slice none 0 0, .slice none 0 0, .slice (some ⟨b1159, 0, none⟩) ((List.replicate requests.length (0 : Int)).length) requests.length]), (1, Own.list (some ⟨b1159, 0, none⟩) requests.length 31 1 (encI .i64) (List.replicate requests.length (0 : Int)))] w ∧ t1889.length = e1195.length)) ?_ ?_
      ·refine rg (m1 rfl (m1 rfl (TG.len 4 rfl fun _ => (lnL U86 rfl rfl (m1 rfl ?_)))))
       obtain ⟨t2556, hx2557, hr2558⟩ := bd_some hx1890
       refine clI C112 Tryz.func112 rfl Tryz.ntmps112 rfl rfl rfl rfl (fun v w => (v = .tuple #[] ∧ St M W H [K1160, K1134, K1123, K1118, K1115, K1112, K20, K17, K14, H] [(4, Own.list ad1198 cap1199 3 1 (encI .i64) t2556), (2, cel b1161 133 [.slice ad10 r_2.words.length cap11, .int .i64 r_2.out, .int .i64 r_2.within, .map b1132, .slice ad1129 r1120.1.swaps.length cap1130, .slice none 0 0, .slice none 0 0, .slice (some ⟨b1159, 0, none⟩) ((List.replicate requests.length (0 : Int)).length) requests.length]), (1, Own.list (some ⟨b1159, 0, none⟩) requests.length 31 1 (encI .i64) (List.replicate requests.length (0 : Int)))] w ∧ t2556.length = e1195.length)) ?_ ?_
       ·refine sq (rg (a1 rfl (on (sq (rg (m1 rfl (a1 rfl (a1 rfl (on (sq ?_))))))))))
        obtain ⟨e2994, hl2995, hr2996⟩ := bd_some hx2557
        refine jn (fun a w => St M W H [K1160, K1134, K1123, K1118, K1115, K1112, K20, K17, K14, H] [(4, Own.list ad1198 cap1199 3 1 (encI .i64) e2994.2), (2, cel b1161 133 [.slice ad10 r_2.words.length cap11, .int .i64 r_2.out, .int .i64 r_2.within, .map b1132, .slice ad1129 r1120.1.swaps.length cap1130, .slice none 0 0, .slice none 0 0, .slice (some ⟨b1159, 0, none⟩) ((List.replicate requests.length (0 : Int)).length) requests.length]), (1, Own.list (some ⟨b1159, 0, none⟩) requests.length 31 1 (encI .i64) (List.replicate requests.length (0 : Int)))] w ∧ Has [] 63 a [(0, .slice ad1198 e1195.length cap1199), (1, .int .i64 (e1195.length : Int)), (2, .func (.func 88) [].toArray [.pointer (some q1117)].toArray), (6, .int .i64 20), (7, .int .i64 (e2994.1 : Int))] ∧ e2994.2.length = e1195.length) ?_ ?_
        ·refine bk ?_
         refine lp hl2995 (fun s2998 a w => St M W H [K1160, K1134, K1123, K1118, K1115, K1112, K20, K17, K14, H] [(4, Own.list ad1198 cap1199 3 1 (encI .i64) s2998.2.2), (2, cel b1161 133 [.slice ad10 r_2.words.length cap11, .int .i64 r_2.out, .int .i64 r_2.within, .map b1132, .slice ad1129 r1120.1.swaps.length cap1130, .slice none 0 0, .slice none 0 0, .slice (some ⟨b1159, 0, none⟩) ((List.replicate requests.length (0 : Int)).length) requests.length]), (1, Own.list (some ⟨b1159, 0, none⟩) requests.length 31 1 (encI .i64) (List.replicate requests.length (0 : Int)))] w ∧ Has [] 63 a [(0, .slice ad1198 e1195.length cap1199), (1, .int .i64 (e1195.length : Int)), (2, .func (.func 88) [].toArray [.pointer (some q1117)].toArray), (6, .int .i64 20), (7, .int .i64 (s2998.1 : Int)), (8, .int .i64 (s2998.2.1 : Int))] ∧ s2998.2.2.length = e1195.length) ?_ ?_
         ·intro a w hS hA
          exact ⟨hS, hA.cut ⟨rfl, rfl, rfl, rfl, rfl, rfl, tv⟩, rfl⟩
         ·rintro j s2998 y3002 hr3000 hz3001 a w ⟨hS, hA, hln2999⟩
          refine TG.ap ?_ hS hA
          unfold m42_2 at hr3000
          refine sq (sq (rg (m1 rfl (m1 rfl (leI rfl rfl rfl (on ?_))))))
          refine ci rfl (fun hc3006 => ?_) (fun hc3006 => ?_)
          ·have hr3007 := if_p hc3006 hr3000
           refine sk (bk (sq (rg (m1 rfl (m1 rfl (m1 rfl (m1 rfl ?_)))))))
           obtain ⟨t3426, hx3427, hr3428⟩ := bd_some hr3007
           refine clI C122 Tryz.func122 rfl Tryz.ntmps122 rfl rfl rfl rfl (fun v w => (v = .tuple #[] ∧ St M W H [K1160, K1134, K1123, K1118, K1115, K1112, K20, K17, K14, H] [(4, Own.list ad1198 cap1199 3 1 (encI .i64) t3426), (2, cel b1161 133 [.slice ad10 r_2.words.length cap11, .int .i64 r_2.out, .int .i64 r_2.within, .map b1132, .slice ad1129 r1120.1.swaps.length cap1130, .slice none 0 0, .slice none 0 0, .slice (some ⟨b1159, 0, none⟩) ((List.replicate requests.length (0 : Int)).length) requests.length]), (1, Own.list (some ⟨b1159, 0, none⟩) requests.length 31 1 (encI .i64) (List.replicate requests.length (0 : Int)))] w ∧ t3426.length = e1195.length)) ?_ ?_
           ·refine sq (rg (m1 rfl ?_))
            obtain ⟨hk3430, hr3431⟩ := chk_some hx3427
            refine adI rfl rfl rfl hk3430 (a1 rfl (on ?_))
            obtain ⟨e3634, hl3635, hr3636⟩ := bd_some hr3431
            refine jn (fun a w => St M W H [K1160, K1134, K1123, K1118, K1115, K1112, K20, K17, K14, H] [(4, Own.list ad1198 cap1199 3 1 (encI .i64) e3634), (2, cel b1161 133 [.slice ad10 r_2.words.length cap11, .int .i64 r_2.out, .int .i64 r_2.within, .map b1132, .slice ad1129 r1120.1.swaps.length cap1130, .slice none 0 0, .slice none 0 0, .slice (some ⟨b1159, 0, none⟩) ((List.replicate requests.length (0 : Int)).length) requests.length]), (1, Own.list (some ⟨b1159, 0, none⟩) requests.length 31 1 (encI .i64) (List.replicate requests.length (0 : Int)))] w ∧ Has [] 53 a [] ∧ e3634.length = e1195.length) ?_ ?_
            ·refine bk ?_
             refine lp hl3635 (fun s3638 a w => St M W H [K1160, K1134, K1123, K1118, K1115, K1112, K20, K17, K14, H] [(4, Own.list ad1198 cap1199 3 1 (encI .i64) s3638.2), (2, cel b1161 133 [.slice ad10 r_2.words.length cap11, .int .i64 r_2.out, .int .i64 r_2.within, .map b1132, .slice ad1129 r1120.1.swaps.length cap1130, .slice none 0 0, .slice none 0 0, .slice (some ⟨b1159, 0, none⟩) ((List.replicate requests.length (0 : Int)).length) requests.length]), (1, Own.list (some ⟨b1159, 0, none⟩) requests.length 31 1 (encI .i64) (List.replicate requests.length (0 : Int)))] w ∧ Has [] 53 a [(0, .slice ad1198 e1195.length cap1199), (1, .int .i64 (s2998.1 : Int)), (2, .int .i64 (s2998.2.1 : Int)), (3, .func (.func 88) [].toArray [.pointer (some q1117)].toArray), (8, .int .i64 (s3638.1 : Int))] ∧ s3638.2.length = e1195.length) ?_ ?_
             ·intro a w hS hA
              exact ⟨hS, hA.cut ⟨rfl, rfl, rfl, rfl, rfl, tv⟩, hln2999⟩
             ·rintro j s3638 y3642 hr3640 hz3641 a w ⟨hS, hA, hln3639⟩
              refine TG.ap ?_ hS hA
              unfold m42_3 at hr3640
              refine sq (sq (rg (m1 rfl (m1 rfl (ltI rfl rfl rfl (on ?_))))))
              refine ci rfl (fun hc3646 => ?_) (fun hc3646 => ?_)
              ·have hr3647 := if_p hc3646 hr3640
               refine sk (sq (bk (sq (rg (m1 rfl (a1 rfl (on ?_)))))))
               obtain ⟨e3834, hl3835, hr3836⟩ := bd_some hr3647
               refine jn (fun a w => St M W H [K1160, K1134, K1123, K1118, K1115, K1112, K20, K17, K14, H] [(4, Own.list ad1198 cap1199 3 1 (encI .i64) e3834), (2, cel b1161 133 [.slice ad10 r_2.words.length cap11, .int .i64 r_2.out, .int .i64 r_2.within, .map b1132, .slice ad1129 r1120.1.swaps.length cap1130, .slice none 0 0, .slice none 0 0, .slice (some ⟨b1159, 0, none⟩) ((List.replicate requests.length (0 : Int)).length) requests.length]), (1, Own.list (some ⟨b1159, 0, none⟩) requests.length 31 1 (encI .i64) (List.replicate requests.length (0 : Int)))] w ∧ Has [] 53 a [(0, .slice ad1198 e1195.length cap1199), (1, .int .i64 (s2998.1 : Int)), (2, .int .i64 (s2998.2.1 : Int)), (3, .func (.func 88) [].toArray [.pointer (some q1117)].toArray), (8, .int .i64 (s3638.1 : Int))] ∧ e3834.length = e1195.length) ?_ ?_
               ·refine bk ?_
                refine lp hl3835 (fun s3838 a w => St M W H [K1160, K1134, K1123, K1118, K1115, K1112, K20, K17, K14, H] [(4, Own.list ad1198 cap1199 3 1 (encI .i64) s3838.2), (2, cel b1161 133 [.slice ad10 r_2.words.length cap11, .int .i64 r_2.out, .int .i64 r_2.within, .map b1132, .slice ad1129 r1120.1.swaps.length cap1130, .slice none 0 0, .slice none 0 0, .slice (some ⟨b1159, 0, none⟩) ((List.replicate requests.length (0 : Int)).length) requests.length]), (1, Own.list (some ⟨b1159, 0, none⟩) requests.length 31 1 (encI .i64) (List.replicate requests.length (0 : Int)))] w ∧ Has [] 53 a [(0, .slice ad1198 e1195.length cap1199), (1, .int .i64 (s2998.1 : Int)), (2, .int .i64 (s2998.2.1 : Int)), (3, .func (.func 88) [].toArray [.pointer (some q1117)].toArray), (8, .int .i64 (s3638.1 : Int)), (9, .int .i64 s3838.1)] ∧ s3838.2.length = e1195.length) ?_ ?_
                ·intro a w hS hA
                 exact ⟨hS, hA.cut ⟨rfl, rfl, rfl, rfl, rfl, rfl, tv⟩, hln3639⟩
                ·rintro j s3838 y3842 hr3840 hz3841 a w ⟨hS, hA, hln3839⟩
                 refine TG.ap ?_ hS hA
                 unfold m42_4 at hr3840
                 refine sq (sq ?_)
                 obtain ⟨t3864, hx3865, hr3866⟩ := bd_some hr3840
                 refine jn (fun a w => St M W H [K1160, K1134, K1123, K1118, K1115, K1112, K20, K17, K14, H] [(4, Own.list ad1198 cap1199 3 1 (encI .i64) s3838.2), (2, cel b1161 133 [.slice ad10 r_2.words.length cap11, .int .i64 r_2.out, .int .i64 r_2.within, .map b1132, .slice ad1129 r1120.1.swaps.length cap1130, .slice none 0 0, .slice none 0 0, .slice (some ⟨b1159, 0, none⟩) ((List.replicate requests.length (0 : Int)).length) requests.length]), (1, Own.list (some ⟨b1159, 0, none⟩) requests.length 31 1 (encI .i64) (List.replicate requests.length (0 : Int)))] w ∧ Has [] 53 a [(0, .slice ad1198 e1195.length cap1199), (1, .int .i64 (s2998.1 : Int)), (2, .int .i64 (s2998.2.1 : Int)), (3, .func (.func 88) [].toArray [.pointer (some q1117)].toArray), (8, .int .i64 (s3638.1 : Int)), (9, .int .i64 s3838.1), (34, .bool t3864)]) ?_ ?_
                 ·by_cases hb3867 : (s2998.1 : Int) < s3838.1
                  ·have hr3868 := if_p hb3867 hx3865
                   obtain ⟨hk3869, hr3870⟩ := chk_some hr3868
                   obtain ⟨x3871, hx3872, hr3873⟩ := bd_some hr3870
                   refine TG.addr 4 rfl (lt_of0 hx3872) fun b3874 h => ?_; subst h
                   obtain ⟨hk3875, hr3876⟩ := chk_some hr3873
                   obtain ⟨hk3877, hr3878⟩ := chk_some hr3876
                   obtain ⟨x3879, hx3880, hr3881⟩ := bd_some hr3878
                   refine drG 14 mixed (by kernel_rfl) rfl (dt rfl (m1 rfl fin1) (dt rfl (m1 rfl fin1) (dt rfl (gtI rfl rfl rfl fin1) (dt rfl (m1 rfl fin1) (dt rfl (gt hb3867 rfl (m1 rfl fin1)) (dt rfl (gt hb3867 rfl (m1 rfl fin1)) (dt rfl (gt hb3867 rfl (m1 rfl fin1)) (dt rfl (gt hb3867 rfl (iaP U86 Z3 rfl rfl rfl (by omega) (Nat.lt_of_lt_of_eq (lt_of hx3872) hln3839) fin1)) (dt rfl (gt hb3867 rfl (ld G3 rfl rfl (sE 4 rfl (fun _ => rfl) hx3872) rfl fin1)) (dt rfl (gt hb3867 rfl (m1 rfl fin1)) (dt rfl (gt hb3867 rfl (m1 rfl fin1)) ?_)))))))))))
                   refine dt rfl (gt hb3867 rfl (sbI rfl rfl rfl hk3875 fin1)) (dt rfl (gt hb3867 rfl (iaP U86 Z3 rfl rfl rfl (by omega) (Nat.lt_of_lt_of_eq (lt_of hx3880) hln3839) fin1)) (dt rfl (gt hb3867 rfl (ld G3 rfl rfl (sE 4 rfl (fun _ => rfl) hx3880) rfl fin1)) (DF.nil fun K3882 hF => (gt hb3867 rfl ?_))))
                   obtain ⟨r3883, hx3884, hr3885⟩ := bd_some hr3881
                   refine clS C88 rfl rfl rfl rfl (fun w H hH le => w88 hH x3871 x3879 (f0_ := requests) (hK1119.mono (le.at 4 rfl)) (h_requests.mono (RRequest.mono) (le.at 10 rfl)) hx3884) (gt hb3867 rfl (ltI rfl rfl rfl (pt hb3867 rfl rfl (on ?_))))
                   cases hr3885
                   intro a w hS hA
                   exact ⟨hS.selH [1, 2, 3, 4, 5, 6, 7, 8, 9, 10] rfl, hA.cut ⟨rfl, rfl, rfl, rfl, rfl, rfl, rfl, tv⟩⟩
                  ·have hr3886 := if_n hb3867 hx3865
                   refine drG 14 mixed (by kernel_rfl) rfl (dt rfl (m1 rfl fin1) (dt rfl (m1 rfl fin1) (dt rfl (gtI rfl rfl rfl fin1) (dt rfl (m1 rfl fin1) (dt rfl (gf hb3867 rfl fin1) (dt rfl (gf hb3867 rfl fin1) (dt rfl (gf hb3867 rfl fin1) (dt rfl (gf hb3867 rfl fin1) (dt rfl (gf hb3867 rfl fin1) (dt rfl (gf hb3867 rfl fin1) (dt rfl (gf hb3867 rfl fin1) ?_)))))))))))
                   refine dt rfl (gf hb3867 rfl fin1) (dt rfl (gf hb3867 rfl fin1) (dt rfl (gf hb3867 rfl fin1) (DF.nil fun K3887 hF => (gf hb3867 rfl (gf hb3867 rfl (pf hb3867 rfl rfl (on ?_)))))))
                   cases hr3886
                   intro a w hS hA
                   exact ⟨hS.selH [1, 2, 3, 4, 5, 6, 7, 8, 9, 10] rfl, hA.cut ⟨rfl, rfl, rfl, rfl, rfl, rfl, rfl, tv⟩⟩
                 ·rintro a w ⟨hS, hA⟩
                  refine TG.ap ?_ hS hA
                  refine cb rfl (fun hc3891 => ?_) (fun hc3891 => ?_)
                  ·have hr3892 := if_p hc3891 hr3866
                   refine sk (sq (bk ?_))
                   obtain ⟨hk3912, hr3913⟩ := chk_some hr3892
                   obtain ⟨hk3914, hr3915⟩ := chk_some hr3913
                   obtain ⟨x3916, hx3917, hr3918⟩ := bd_some hr3915
                   refine TG.addr 4 rfl (lt_of0 hx3917) fun b3919 h => ?_; subst h
                   obtain ⟨hk3920, hr3921⟩ := chk_some hr3918
                   obtain ⟨x3922, hx3923, hr3924⟩ := bd_some hr3921
                   refine drG3 14 [] [(2, 39, .slice (some ⟨b3919, 0, none⟩) e1195.length cap1199), (3, 40, .int .i64 s3838.1), (4, 41, .int .i64 (s3838.1 - 1))] mixed (fun _ _ _ _ _ h => h) (by kernel_rfl) (by kernel_rfl) (by kernel_rfl) rfl (by kernel_rfl) (.cons rfl rfl rfl (fun _ => rfl) (by kernel_rfl) (by kernel_rfl) (fun _ _ => rfl) (mvY rfl) (.cons rfl rfl rfl (fun _ => rfl) (by kernel_rfl) (by kernel_rfl) (fun _ _ => rfl) (mvY rfl) (.cons rfl rfl rfl (fun _ => rfl) (by kernel_rfl) (by kernel_rfl) (fun _ _ => rfl) (sbIY rfl rfl hk3912) (.nil)))) (dc rfl (by kernel_rfl) tv rfl rfl (m1 rfl fin1) (dc rfl (by kernel_rfl) tv rfl rfl (m1 rfl fin1) (DC.pre (.head _) rfl (DC.pre (.tail _ (.head _)) rfl (DC.pre (.tail _ (.tail _ (.head _))) rfl (dc rfl (by kernel_rfl) tv rfl rfl (m1 rfl fin1) (dc rfl (by kernel_rfl) tv rfl rfl (m1 rfl fin1) (dc rfl (by kernel_rfl) tv rfl rfl (sbI rfl rfl rfl hk3912 fin1) (dc rfl (by kernel_rfl) tv rfl rfl (iaP U86 Z3 rfl rfl rfl (by omega) (Nat.lt_of_lt_of_eq (lt_of hx3917) hln3839) fin1) (dc rfl (by kernel_rfl) tv rfl rfl (ld G3 rfl rfl (sE 4 rfl (fun _ => rfl) hx3917) rfl fin1) (dc rfl (by kernel_rfl) tv rfl rfl (m1 rfl fin1) ?_)))))))))))
                   refine dc rfl (by kernel_rfl) tv rfl rfl (m1 rfl fin1) (dc rfl (by kernel_rfl) tv rfl rfl (iaP U86 Z3 rfl rfl rfl (by omega) (Nat.lt_of_lt_of_eq (lt_of hx3923) hln3839) fin1) (dc rfl (by kernel_rfl) tv rfl rfl (ld G3 rfl rfl (sE 4 rfl (fun _ => rfl) hx3923) rfl fin1) (DC.nil fun K3925 hF => (iaP U86 Z3 rfl rfl rfl (by omega) (Nat.lt_of_lt_of_eq (lt_of hx3923) hln3839) ?_))))
                   have hln3926 : (s3838.2.set s3838.1.toNat x3916).length = e1195.length := (lenS _ _ _).trans hln3839
                   refine stE 4 x3916 (q := ⟨b3919, 0, none⟩) (j := s3838.1.toNat) (size := 1) (cs := [.int .i64 x3916]) (off := 0) Z3 rfl rfl rfl (fun _ => rfl) hx3923 rfl rfl rfl rfl rfl ?_
                   obtain ⟨x3927, hx3928, hr3929⟩ := bd_some hr3924
                   refine iaP U86 Z3 rfl rfl rfl (by omega) (Nat.lt_of_lt_of_eq (lt_of hx3928) hln3926) ?_
                   have hln3930 : ((s3838.2.set s3838.1.toNat x3916).set ((s3838.1 - 1).toNat) x3922).length = e1195.length := (lenS _ _ _).trans hln3926
                   refine stE 4 x3922 (q := ⟨b3919, 0, none⟩) (j := (s3838.1 - 1).toNat) (size := 1) (cs := [.int .i64 x3922]) (off := 0) Z3 rfl rfl rfl (fun _ => rfl) hx3928 rfl rfl rfl rfl rfl (on (rg (m1 rfl (sbI rfl rfl rfl hk3912 (a1 rfl (on ?_))))))
                   cases hr3929
                   intro a w hS hA
                   exact ⟨_, hz3841, hS.selH [1, 2, 3, 4, 5, 6, 7, 8, 9, 10] rfl, hA.cut ⟨rfl, rfl, rfl, rfl, rfl, rfl, tv⟩, hln3930⟩
                  ·have hr3931 := if_f hc3891 hr3866
                   refine xt rfl ?_
                   cases hr3931
                   obtain rfl := Fin.out hz3841
                   intro a w hS hA
                   exact ⟨hS, hA.cut ⟨rfl, rfl, rfl, rfl, rfl, tv⟩, hln3839⟩
               ·rintro a w ⟨hS, hA, hln3837⟩
                refine TG.ap ?_ hS hA
                refine rg (m1 rfl ?_)
                obtain ⟨hk3932, hr3933⟩ := chk_some hr3836
                refine adI rfl rfl rfl hk3932 (a1 rfl (on ?_))
                cases hr3933
                intro a w hS hA
                exact ⟨_, hz3641, hS, hA.cut ⟨rfl, rfl, rfl, rfl, rfl, tv⟩, hln3837⟩
              ·have hr3934 := if_n hc3646 hr3640
               refine xt rfl ?_
               cases hr3934
               obtain rfl := Fin.out hz3641
               intro a w hS hA
               exact ⟨hS, hA.cut tv, hln3639⟩
            ·rintro a w ⟨hS, hA, hln3637⟩
             refine TG.ap ?_ hS hA
             cases hr3636
             intro a w hS hA
             refine ret0 hA rfl ?_
             exact ⟨_, rfl, ⟨rfl, hS, hln3637⟩⟩
           ·rintro a w v hA (⟨rfl, hS, hln3429⟩)
            refine putK rfl hA hS (on (sq (rg (m1 rfl (a1 rfl (on (rg (m1 rfl (m1 rfl ?_)))))))))
            obtain ⟨hk3935, hr3936⟩ := chk_some hr3428
            refine adI rfl rfl rfl hk3935 (a1 rfl (on ?_))
            cases hr3936
            intro a w hS hA
            exact ⟨_, hz3001, hS, hA.cut ⟨rfl, rfl, rfl, rfl, rfl, rfl, tv⟩, hln3429⟩
          ·have hr3937 := if_n hc3006 hr3000
           refine xt rfl ?_
           cases hr3937
           obtain rfl := Fin.out hz3001
           intro a w hS hA
           exact ⟨hS, hA.cut ⟨rfl, rfl, rfl, rfl, rfl, tv⟩, hln2999⟩
        ·rintro a w ⟨hS, hA, hln2997⟩
         refine TG.ap ?_ hS hA
         refine sq (rg (m1 rfl (m1 rfl (m1 rfl (m1 rfl ?_)))))
         obtain ⟨t4140, hx4141, hr4142⟩ := bd_some hr2996
         refine clI C122 Tryz.func122 rfl Tryz.ntmps122 rfl rfl rfl rfl (fun v w => (v = .tuple #[] ∧ St M W H [K1160, K1134, K1123, K1118, K1115, K1112, K20, K17, K14, H] [(4, Own.list ad1198 cap1199 3 1 (encI .i64) t4140), (2, cel b1161 133 [.slice ad10 r_2.words.length cap11, .int .i64 r_2.out, .int .i64 r_2.within, .map b1132, .slice ad1129 r1120.1.swaps.length cap1130, .slice none 0 0, .slice none 0 0, .slice (some ⟨b1159, 0, none⟩) ((List.replicate requests.length (0 : Int)).length) requests.length]), (1, Own.list (some ⟨b1159, 0, none⟩) requests.length 31 1 (encI .i64) (List.replicate requests.length (0 : Int)))] w ∧ t4140.length = e1195.length)) ?_ ?_
         ·refine sq (rg (m1 rfl ?_))
          obtain ⟨hk4144, hr4145⟩ := chk_some hx4141
          refine adI rfl rfl rfl hk4144 (a1 rfl (on ?_))
          obtain ⟨e4344, hl4345, hr4346⟩ := bd_some hr4145
          refine jn (fun a w => St M W H [K1160, K1134, K1123, K1118, K1115, K1112, K20, K17, K14, H] [(4, Own.list ad1198 cap1199 3 1 (encI .i64) e4344), (2, cel b1161 133 [.slice ad10 r_2.words.length cap11, .int .i64 r_2.out, .int .i64 r_2.within, .map b1132, .slice ad1129 r1120.1.swaps.length cap1130, .slice none 0 0, .slice none 0 0, .slice (some ⟨b1159, 0, none⟩) ((List.replicate requests.length (0 : Int)).length) requests.length]), (1, Own.list (some ⟨b1159, 0, none⟩) requests.length 31 1 (encI .i64) (List.replicate requests.length (0 : Int)))] w ∧ Has [] 53 a [] ∧ e4344.length = e1195.length) ?_ ?_
          ·refine bk ?_
           refine lp hl4345 (fun s4348 a w => St M W H [K1160, K1134, K1123, K1118, K1115, K1112, K20, K17, K14, H] [(4, Own.list ad1198 cap1199 3 1 (encI .i64) s4348.2), (2, cel b1161 133 [.slice ad10 r_2.words.length cap11, .int .i64 r_2.out, .int .i64 r_2.within, .map b1132, .slice ad1129 r1120.1.swaps.length cap1130, .slice none 0 0, .slice none 0 0, .slice (some ⟨b1159, 0, none⟩) ((List.replicate requests.length (0 : Int)).length) requests.length]), (1, Own.list (some ⟨b1159, 0, none⟩) requests.length 31 1 (encI .i64) (List.replicate requests.length (0 : Int)))] w ∧ Has [] 53 a [(0, .slice ad1198 e1195.length cap1199), (1, .int .i64 (e2994.1 : Int)), (2, .int .i64 (e1195.length : Int)), (3, .func (.func 88) [].toArray [.pointer (some q1117)].toArray), (8, .int .i64 (s4348.1 : Int))] ∧ s4348.2.length = e1195.length) ?_ ?_
           ·intro a w hS hA
            exact ⟨hS, hA.cut ⟨rfl, rfl, rfl, rfl, rfl, tv⟩, hln2997⟩
           ·rintro j s4348 y4352 hr4350 hz4351 a w ⟨hS, hA, hln4349⟩
            refine TG.ap ?_ hS hA
            unfold m42_5 at hr4350
            refine sq (sq (rg (m1 rfl (m1 rfl (ltI rfl rfl rfl (on ?_))))))
            refine ci rfl (fun hc4356 => ?_) (fun hc4356 => ?_)
            ·have hr4357 := if_p hc4356 hr4350
             refine sk (sq (bk (sq (rg (m1 rfl (a1 rfl (on ?_)))))))
             obtain ⟨e4544, hl4545, hr4546⟩ := bd_some hr4357
             refine jn (fun a w => St M W H [K1160, K1134, K1123, K1118, K1115, K1112, K20, K17, K14, H] [(4, Own.list ad1198 cap1199 3 1 (encI .i64) e4544), (2, cel b1161 133 [.slice ad10 r_2.words.length cap11, .int .i64 r_2.out, .int .i64 r_2.within, .map b1132, .slice ad1129 r1120.1.swaps.length cap1130, .slice none 0 0, .slice none 0 0, .slice (some ⟨b1159, 0, none⟩) ((List.replicate requests.length (0 : Int)).length) requests.length]), (1, Own.list (some ⟨b1159, 0, none⟩) requests.length 31 1 (encI .i64) (List.replicate requests.length (0 : Int)))] w ∧ Has [] 53 a [(0, .slice ad1198 e1195.length cap1199), (1, .int .i64 (e2994.1 : Int)), (2, .int .i64 (e1195.length : Int)), (3, .func (.func 88) [].toArray [.pointer (some q1117)].toArray), (8, .int .i64 (s4348.1 : Int))] ∧ e4544.length = e1195.length) ?_ ?_
             ·refine bk ?_
              refine lp hl4545 (fun s4548 a w => St M W H [K1160, K1134, K1123, K1118, K1115, K1112, K20, K17, K14, H] [(4, Own.list ad1198 cap1199 3 1 (encI .i64) s4548.2), (2, cel b1161 133 [.slice ad10 r_2.words.length cap11, .int .i64 r_2.out, .int .i64 r_2.within, .map b1132, .slice ad1129 r1120.1.swaps.length cap1130, .slice none 0 0, .slice none 0 0, .slice (some ⟨b1159, 0, none⟩) ((List.replicate requests.length (0 : Int)).length) requests.length]), (1, Own.list (some ⟨b1159, 0, none⟩) requests.length 31 1 (encI .i64) (List.replicate requests.length (0 : Int)))] w ∧ Has [] 53 a [(0, .slice ad1198 e1195.length cap1199), (1, .int .i64 (e2994.1 : Int)), (2, .int .i64 (e1195.length : Int)), (3, .func (.func 88) [].toArray [.pointer (some q1117)].toArray), (8, .int .i64 (s4348.1 : Int)), (9, .int .i64 s4548.1)] ∧ s4548.2.length = e1195.length) ?_ ?_
              ·intro a w hS hA
               exact ⟨hS, hA.cut ⟨rfl, rfl, rfl, rfl, rfl, rfl, tv⟩, hln4349⟩
              ·rintro j s4548 y4552 hr4550 hz4551 a w ⟨hS, hA, hln4549⟩
               refine TG.ap ?_ hS hA
               unfold m42_6 at hr4550
               refine sq (sq ?_)
               obtain ⟨t4574, hx4575, hr4576⟩ := bd_some hr4550
               refine jn (fun a w => St M W H [K1160, K1134, K1123, K1118, K1115, K1112, K20, K17, K14, H] [(4, Own.list ad1198 cap1199 3 1 (encI .i64) s4548.2), (2, cel b1161 133 [.slice ad10 r_2.words.length cap11, .int .i64 r_2.out, .int .i64 r_2.within, .map b1132, .slice ad1129 r1120.1.swaps.length cap1130, .slice none 0 0, .slice none 0 0, .slice (some ⟨b1159, 0, none⟩) ((List.replicate requests.length (0 : Int)).length) requests.length]), (1, Own.list (some ⟨b1159, 0, none⟩) requests.length 31 1 (encI .i64) (List.replicate requests.length (0 : Int)))] w ∧ Has [] 53 a [(0, .slice ad1198 e1195.length cap1199), (1, .int .i64 (e2994.1 : Int)), (2, .int .i64 (e1195.length : Int)), (3, .func (.func 88) [].toArray [.pointer (some q1117)].toArray), (8, .int .i64 (s4348.1 : Int)), (9, .int .i64 s4548.1), (34, .bool t4574)]) ?_ ?_
               ·by_cases hb4577 : (e2994.1 : Int) < s4548.1
                ·have hr4578 := if_p hb4577 hx4575
                 obtain ⟨hk4579, hr4580⟩ := chk_some hr4578
                 obtain ⟨x4581, hx4582, hr4583⟩ := bd_some hr4580
                 refine TG.addr 4 rfl (lt_of0 hx4582) fun b4584 h => ?_; subst h
                 obtain ⟨hk4585, hr4586⟩ := chk_some hr4583
                 obtain ⟨hk4587, hr4588⟩ := chk_some hr4586
                 obtain ⟨x4589, hx4590, hr4591⟩ := bd_some hr4588
                 refine drG 14 mixed (by kernel_rfl) rfl (dt rfl (m1 rfl fin1) (dt rfl (m1 rfl fin1) (dt rfl (gtI rfl rfl rfl fin1) (dt rfl (m1 rfl fin1) (dt rfl (gt hb4577 rfl (m1 rfl fin1)) (dt rfl (gt hb4577 rfl (m1 rfl fin1)) (dt rfl (gt hb4577 rfl (m1 rfl fin1)) (dt rfl (gt hb4577 rfl (iaP U86 Z3 rfl rfl rfl (by omega) (Nat.lt_of_lt_of_eq (lt_of hx4582) hln4549) fin1)) (dt rfl (gt hb4577 rfl (ld G3 rfl rfl (sE 4 rfl (fun _ => rfl) hx4582) rfl fin1)) (dt rfl (gt hb4577 rfl (m1 rfl fin1)) (dt rfl (gt hb4577 rfl (m1 rfl fin1)) ?_)))))))))))
                 refine dt rfl (gt hb4577 rfl (sbI rfl rfl rfl hk4585 fin1)) (dt rfl (gt hb4577 rfl (iaP U86 Z3 rfl rfl rfl (by omega) (Nat.lt_of_lt_of_eq (lt_of hx4590) hln4549) fin1)) (dt rfl (gt hb4577 rfl (ld G3 rfl rfl (sE 4 rfl (fun _ => rfl) hx4590) rfl fin1)) (DF.nil fun K4592 hF => (gt hb4577 rfl ?_))))
                 obtain ⟨r4593, hx4594, hr4595⟩ := bd_some hr4591
                 refine clS C88 rfl rfl rfl rfl (fun w H hH le => w88 hH x4581 x4589 (f0_ := requests) (hK1119.mono (le.at 4 rfl)) (h_requests.mono (RRequest.mono) (le.at 10 rfl)) hx4594) (gt hb4577 rfl (ltI rfl rfl rfl (pt hb4577 rfl rfl (on ?_))))
                 cases hr4595
                 intro a w hS hA
                 exact ⟨hS.selH [1, 2, 3, 4, 5, 6, 7, 8, 9, 10] rfl, hA.cut ⟨rfl, rfl, rfl, rfl, rfl, rfl, rfl, tv⟩⟩
                ·have hr4596 := if_n hb4577 hx4575
                 refine drG 14 mixed (by kernel_rfl) rfl (dt rfl (m1 rfl fin1) (dt rfl (m1 rfl fin1) (dt rfl (gtI rfl rfl rfl fin1) (dt rfl (m1 rfl fin1) (dt rfl (gf hb4577 rfl fin1) (dt rfl (gf hb4577 rfl fin1) (dt rfl (gf hb4577 rfl fin1) (dt rfl (gf hb4577 rfl fin1) (dt rfl (gf hb4577 rfl fin1) (dt rfl (gf hb4577 rfl fin1) (dt rfl (gf hb4577 rfl fin1) ?_)))))))))))
                 refine dt rfl (gf hb4577 rfl fin1) (dt rfl (gf hb4577 rfl fin1) (dt rfl (gf hb4577 rfl fin1) (DF.nil fun K4597 hF => (gf hb4577 rfl (gf hb4577 rfl (pf hb4577 rfl rfl (on ?_)))))))
                 cases hr4596
                 intro a w hS hA
                 exact ⟨hS.selH [1, 2, 3, 4, 5, 6, 7, 8, 9, 10] rfl, hA.cut ⟨rfl, rfl, rfl, rfl, rfl, rfl, rfl, tv⟩⟩
               ·rintro a w ⟨hS, hA⟩
                refine TG.ap ?_ hS hA
                refine cb rfl (fun hc4601 => ?_) (fun hc4601 => ?_)
                ·have hr4602 := if_p hc4601 hr4576
                 refine sk (sq (bk ?_))
                 obtain ⟨hk4622, hr4623⟩ := chk_some hr4602
                 obtain ⟨hk4624, hr4625⟩ := chk_some hr4623
                 obtain ⟨x4626, hx4627, hr4628⟩ := bd_some hr4625
                 refine TG.addr 4 rfl (lt_of0 hx4627) fun b4629 h => ?_; subst h
                 obtain ⟨hk4630, hr4631⟩ := chk_some hr4628
                 obtain ⟨x4632, hx4633, hr4634⟩ := bd_some hr4631
                 refine drG3 14 [] [(2, 39, .slice (some ⟨b4629, 0, none⟩) e1195.length cap1199), (3, 40, .int .i64 s4548.1), (4, 41, .int .i64 (s4548.1 - 1))] mixed (fun _ _ _ _ _ h => h) (by kernel_rfl) (by kernel_rfl) (by kernel_rfl) rfl (by kernel_rfl) (.cons rfl rfl rfl (fun _ => rfl) (by kernel_rfl) (by kernel_rfl) (fun _ _ => rfl) (mvY rfl) (.cons rfl rfl rfl (fun _ => rfl) (by kernel_rfl) (by kernel_rfl) (fun _ _ => rfl) (mvY rfl) (.cons rfl rfl rfl (fun _ => rfl) (by kernel_rfl) (by kernel_rfl) (fun _ _ => rfl) (sbIY rfl rfl hk4622) (.nil)))) (dc rfl (by kernel_rfl) tv rfl rfl (m1 rfl fin1) (dc rfl (by kernel_rfl) tv rfl rfl (m1 rfl fin1) (DC.pre (.head _) rfl (DC.pre (.tail _ (.head _)) rfl (DC.pre (.tail _ (.tail _ (.head _))) rfl (dc rfl (by kernel_rfl) tv rfl rfl (m1 rfl fin1) (dc rfl (by kernel_rfl) tv rfl rfl (m1 rfl fin1) (dc rfl (by kernel_rfl) tv rfl rfl (sbI rfl rfl rfl hk4622 fin1) (dc rfl (by kernel_rfl) tv rfl rfl (iaP U86 Z3 rfl rfl rfl (by omega) (Nat.lt_of_lt_of_eq (lt_of hx4627) hln4549) fin1) (dc rfl (by kernel_rfl) tv rfl rfl (ld G3 rfl rfl (sE 4 rfl (fun _ => rfl) hx4627) rfl fin1) (dc rfl (by kernel_rfl) tv rfl rfl (m1 rfl fin1) ?_)))))))))))
                 refine dc rfl (by kernel_rfl) tv rfl rfl (m1 rfl fin1) (dc rfl (by kernel_rfl) tv rfl rfl (iaP U86 Z3 rfl rfl rfl (by omega) (Nat.lt_of_lt_of_eq (lt_of hx4633) hln4549) fin1) (dc rfl (by kernel_rfl) tv rfl rfl (ld G3 rfl rfl (sE 4 rfl (fun _ => rfl) hx4633) rfl fin1) (DC.nil fun K4635 hF => (iaP U86 Z3 rfl rfl rfl (by omega) (Nat.lt_of_lt_of_eq (lt_of hx4633) hln4549) ?_))))
                 have hln4636 : (s4548.2.set s4548.1.toNat x4626).length = e1195.length := (lenS _ _ _).trans hln4549
                 refine stE 4 x4626 (q := ⟨b4629, 0, none⟩) (j := s4548.1.toNat) (size := 1) (cs := [.int .i64 x4626]) (off := 0) Z3 rfl rfl rfl (fun _ => rfl) hx4633 rfl rfl rfl rfl rfl ?_
                 obtain ⟨x4637, hx4638, hr4639⟩ := bd_some hr4634
                 refine iaP U86 Z3 rfl rfl rfl (by omega) (Nat.lt_of_lt_of_eq (lt_of hx4638) hln4636) ?_
                 have hln4640 : ((s4548.2.set s4548.1.toNat x4626).set ((s4548.1 - 1).toNat) x4632).length = e1195.length := (lenS _ _ _).trans hln4636
                 refine stE 4 x4632 (q := ⟨b4629, 0, none⟩) (j := (s4548.1 - 1).toNat) (size := 1) (cs := [.int .i64 x4632]) (off := 0) Z3 rfl rfl rfl (fun _ => rfl) hx4638 rfl rfl rfl rfl rfl (on (rg (m1 rfl (sbI rfl rfl rfl hk4622 (a1 rfl (on ?_))))))
                 cases hr4639
                 intro a w hS hA
                 exact ⟨_, hz4551, hS.selH [1, 2, 3, 4, 5, 6, 7, 8, 9, 10] rfl, hA.cut ⟨rfl, rfl, rfl, rfl, rfl, rfl, tv⟩, hln4640⟩
                ·have hr4641 := if_f hc4601 hr4576
                 refine xt rfl ?_
                 cases hr4641
                 obtain rfl := Fin.out hz4551
                 intro a w hS hA
                 exact ⟨hS, hA.cut ⟨rfl, rfl, rfl, rfl, rfl, tv⟩, hln4549⟩
             ·rintro a w ⟨hS, hA, hln4547⟩
              refine TG.ap ?_ hS hA
              refine rg (m1 rfl (adI rfl rfl rfl (by omega) (a1 rfl (on ?_))))
              cases hr4546
              intro a w hS hA
              exact ⟨_, hz4351, hS, hA.cut ⟨rfl, rfl, rfl, rfl, rfl, tv⟩, hln4547⟩
            ·have hr4642 := if_n hc4356 hr4350
             refine xt rfl ?_
             cases hr4642
             obtain rfl := Fin.out hz4351
             intro a w hS hA
             exact ⟨hS, hA.cut tv, hln4349⟩
          ·rintro a w ⟨hS, hA, hln4347⟩
           refine TG.ap ?_ hS hA
           cases hr4346
           intro a w hS hA
           refine ret0 hA rfl ?_
           exact ⟨_, rfl, ⟨rfl, hS, hln4347⟩⟩
         ·rintro a w v hA (⟨rfl, hS, hln4143⟩)
          refine putK rfl hA hS (on ?_)
          obtain ⟨e4663, hl4664, hr4665⟩ := bd_some hr4142
          refine jn (fun a w => St M W H [K1160, K1134, K1123, K1118, K1115, K1112, K20, K17, K14, H] [(4, Own.list ad1198 cap1199 3 1 (encI .i64) t4140), (2, cel b1161 133 [.slice ad10 r_2.words.length cap11, .int .i64 r_2.out, .int .i64 r_2.within, .map b1132, .slice ad1129 r1120.1.swaps.length cap1130, .slice none 0 0, .slice none 0 0, .slice (some ⟨b1159, 0, none⟩) ((List.replicate requests.length (0 : Int)).length) requests.length]), (1, Own.list (some ⟨b1159, 0, none⟩) requests.length 31 1 (encI .i64) (List.replicate requests.length (0 : Int)))] w ∧ Has [] 63 a []) ?_ ?_
          ·refine bk ?_
           refine lp hl4664 (fun s4666 a w => St M W H [K1160, K1134, K1123, K1118, K1115, K1112, K20, K17, K14, H] [(4, Own.list ad1198 cap1199 3 1 (encI .i64) t4140), (2, cel b1161 133 [.slice ad10 r_2.words.length cap11, .int .i64 r_2.out, .int .i64 r_2.within, .map b1132, .slice ad1129 r1120.1.swaps.length cap1130, .slice none 0 0, .slice none 0 0, .slice (some ⟨b1159, 0, none⟩) ((List.replicate requests.length (0 : Int)).length) requests.length]), (1, Own.list (some ⟨b1159, 0, none⟩) requests.length 31 1 (encI .i64) (List.replicate requests.length (0 : Int)))] w ∧ Has [] 63 a [(0, .slice ad1198 e1195.length cap1199), (1, .int .i64 (e1195.length : Int)), (2, .func (.func 88) [].toArray [.pointer (some q1117)].toArray), (6, .int .i64 s4666)]) ?_ ?_
           ·exact cu ⟨rfl, rfl, rfl, rfl, tv⟩
           ·rintro j s4666 y4669 hr4667 hz4668 a w ⟨hS, hA⟩
            refine TG.ap ?_ hS hA
            unfold m42_7 at hr4667
            refine sq (sq (rg (m1 rfl (m1 rfl (ltI rfl rfl rfl (on ?_))))))
            refine ci rfl (fun hc4673 => ?_) (fun hc4673 => ?_)
            ·have hr4674 := if_p hc4673 hr4667
             refine sk (bk (sq (rg (m1 rfl ?_))))
             obtain ⟨hk4691, hr4692⟩ := chk_some hr4674
             refine mlI rfl rfl rfl hk4691 (a1 rfl (a1 rfl (on (sq ?_))))
             obtain ⟨e4699, hl4700, hr4701⟩ := bd_some hr4692
             refine jn (fun a w => St M W H [K1160, K1134, K1123, K1118, K1115, K1112, K20, K17, K14, H] [(4, Own.list ad1198 cap1199 3 1 (encI .i64) t4140), (2, cel b1161 133 [.slice ad10 r_2.words.length cap11, .int .i64 r_2.out, .int .i64 r_2.within, .map b1132, .slice ad1129 r1120.1.swaps.length cap1130, .slice none 0 0, .slice none 0 0, .slice (some ⟨b1159, 0, none⟩) ((List.replicate requests.length (0 : Int)).length) requests.length]), (1, Own.list (some ⟨b1159, 0, none⟩) requests.length 31 1 (encI .i64) (List.replicate requests.length (0 : Int)))] w ∧ Has [] 63 a [(0, .slice ad1198 e1195.length cap1199), (1, .int .i64 (e1195.length : Int)), (2, .func (.func 88) [].toArray [.pointer (some q1117)].toArray), (6, .int .i64 s4666), (7, .int .i64 (e4699 : Int))]) ?_ ?_
             ·refine bk ?_
              refine lp hl4700 (fun s4702 a w => St M W H [K1160, K1134, K1123, K1118, K1115, K1112, K20, K17, K14, H] [(4, Own.list ad1198 cap1199 3 1 (encI .i64) t4140), (2, cel b1161 133 [.slice ad10 r_2.words.length cap11, .int .i64 r_2.out, .int .i64 r_2.within, .map b1132, .slice ad1129 r1120.1.swaps.length cap1130, .slice none 0 0, .slice none 0 0, .slice (some ⟨b1159, 0, none⟩) ((List.replicate requests.length (0 : Int)).length) requests.length]), (1, Own.list (some ⟨b1159, 0, none⟩) requests.length 31 1 (encI .i64) (List.replicate requests.length (0 : Int)))] w ∧ Has [] 63 a [(0, .slice ad1198 e1195.length cap1199), (1, .int .i64 (e1195.length : Int)), (2, .func (.func 88) [].toArray [.pointer (some q1117)].toArray), (6, .int .i64 s4666), (7, .int .i64 (s4702.1 : Int)), (8, .int .i64 s4702.2)]) ?_ ?_
              ·exact cu ⟨rfl, rfl, rfl, rfl, rfl, rfl, tv⟩
              ·rintro j s4702 y4705 hr4703 hz4704 a w ⟨hS, hA⟩
               refine TG.ap ?_ hS hA
               unfold m42_8 at hr4703
               refine sq (sq (rg (m1 rfl (m1 rfl (leI rfl rfl rfl (on ?_))))))
               refine ci rfl (fun hc4709 => ?_) (fun hc4709 => ?_)
               ·have hr4710 := if_p hc4709 hr4703
                refine sk (bk (sq (rg (m1 rfl (m1 rfl (m1 rfl (m1 rfl ?_)))))))
                obtain ⟨hk4713, hr4714⟩ := chk_some hr4710
                refine adI rfl rfl rfl hk4713 (m1 rfl (m1 rfl ?_))
                cases hr4714
               ·have hr4715 := if_n hc4709 hr4703
                refine xt rfl ?_
                cases hr4715
                obtain rfl := Fin.out hz4704
                exact cu ⟨rfl, rfl, rfl, rfl, rfl, tv⟩
             ·rintro a w ⟨hS, hA⟩
              refine TG.ap ?_ hS hA
              refine sq (sq (rg (m1 rfl (m1 rfl ?_))))
              obtain ⟨hk4716, hr4717⟩ := chk_some hr4701
              refine adI rfl rfl rfl hk4716 (a1 rfl (on (sq (rg (m1 rfl (m1 rfl (ltI rfl rfl rfl (on ?_))))))))
              refine ci rfl (fun hc4721 => ?_) (fun hc4721 => ?_)
              ·have hr4722 := if_p hc4721 hr4717
               refine rg (m1 rfl (m1 rfl (m1 rfl (m1 rfl (m1 rfl ?_)))))
               cases hr4722
              ·have hr4723 := if_n hc4721 hr4717
               refine sk (rg (m1 rfl ?_))
               obtain ⟨hk4724, hr4725⟩ := chk_some hr4723
               refine mlI rfl rfl rfl hk4724 (a1 rfl (on ?_))
               cases hr4725
               intro a w hS hA
               exact ⟨_, hz4668, hS, hA.cut ⟨rfl, rfl, rfl, rfl, tv⟩⟩
            ·have hr4726 := if_n hc4673 hr4667
             refine xt rfl ?_
             cases hr4726
             obtain rfl := Fin.out hz4668
             exact cu tv
          ·rintro a w ⟨hS, hA⟩
           refine TG.ap ?_ hS hA
           cases hr4665
           intro a w hS hA
           refine ret0 hA rfl ?_
           exact ⟨_, rfl, ⟨rfl, hS, hln4143⟩⟩
       ·rintro a w v hA (⟨rfl, hS, hln2559⟩)
        refine putK rfl hA hS (on ?_)
        cases hr2558
        intro a w hS hA
        refine ret0 hA rfl ?_
        exact ⟨_, rfl, ⟨rfl, hS, hln2559⟩⟩
      ·rintro a w v hA (⟨rfl, hS, hln1892⟩)
       refine putK rfl hA hS (on (sq (sq (rg (m1 rfl (TG.len 4 rfl fun _ => (lnL U86 rfl rfl (m1 rfl (on (TG.nilRow 7 63 5 ?_))))))))))
       have hR4840 : Rows (RRequest) 5 H [] ([] : List Request) := tv
       refine TG.nilRow 8 3 1 (TG.as 8 (z := Own.list none 0 3 1 (encI .i64) ([] : List Int)) rfl rfl (TG.as 7 (z := Own.rows none 0 63 5 [] ([] : List Request)) rfl rfl ?_))
       obtain ⟨e5016, hl5017, hr5018⟩ := bd_some hr1891
       refine jn (fun a w => ∃ (ad5019 : Option Addr) (cap5020 : Nat) (ad5021 : Option Addr) (cap5022 : Nat) (css5023 : List (List Value)) (K5024 : Hp), St M W H [K5024, K1160, K1134, K1123, K1118, K1115, K1112, K20, K17, K14, H] [(8, Own.list ad5019 cap5020 3 1 (encI .i64) e5016.1), (7, Own.rows ad5021 cap5022 63 5 css5023 e5016.2.1), (4, Own.list ad1198 cap1199 3 1 (encI .i64) t1889), (2, cel b1161 133 [.slice ad10 r_2.words.length cap11, .int .i64 r_2.out, .int .i64 r_2.within, .map b1132, .slice ad1129 r1120.1.swaps.length cap1130, .slice ad5021 e5016.2.1.length cap5022, .slice ad5019 e5016.1.length cap5020, .slice (some ⟨b1159, 0, none⟩) ((List.replicate requests.length (0 : Int)).length) requests.length]), (1, Own.list (some ⟨b1159, 0, none⟩) requests.length 31 1 (encI .i64) e5016.2.2)] w ∧ Has [] 106 a [(13, .pointer (some (⟨b1161, 0, none⟩)))] ∧ Rows (RRequest) 5 K5024 css5023 e5016.2.1 ∧ e5016.2.2.length = (List.replicate requests.length (0 : Int)).length) ?_ ?_
       ·refine bk ?_
        refine lp hl5017 (fun s5027 a w => ∃ (ad5028 : Option Addr) (cap5029 : Nat) (ad5030 : Option Addr) (cap5031 : Nat) (css5032 : List (List Value)) (K5033 : Hp), St M W H [K5033, K1160, K1134, K1123, K1118, K1115, K1112, K20, K17, K14, H] [(8, Own.list ad5028 cap5029 3 1 (encI .i64) s5027.2.1), (7, Own.rows ad5030 cap5031 63 5 css5032 s5027.2.2.1), (4, Own.list ad1198 cap1199 3 1 (encI .i64) t1889), (2, cel b1161 133 [.slice ad10 r_2.words.length cap11, .int .i64 r_2.out, .int .i64 r_2.within, .map b1132, .slice ad1129 r1120.1.swaps.length cap1130, .slice ad5030 s5027.2.2.1.length cap5031, .slice ad5028 s5027.2.1.length cap5029, .slice (some ⟨b1159, 0, none⟩) ((List.replicate requests.length (0 : Int)).length) requests.length]), (1, Own.list (some ⟨b1159, 0, none⟩) requests.length 31 1 (encI .i64) s5027.2.2.2)] w ∧ Has [] 106 a [(7, .pointer (some q1117)), (13, .pointer (some (⟨b1161, 0, none⟩))), (55, .slice ad1198 e1195.length cap1199), (56, .int .i64 (e1195.length : Int)), (57, .int .i64 (s5027.1 : Int))] ∧ Rows (RRequest) 5 K5033 css5032 s5027.2.2.1 ∧ s5027.2.2.2.length = (List.replicate requests.length (0 : Int)).length) ?_ ?_
        ·intro a w hS hA
         exact ⟨none, 0, none, 0, [], H, hS.selH [9, 0, 1, 2, 3, 4, 5, 6, 7, 8, 9] rfl, hA.cut ⟨rfl, rfl, rfl, rfl, rfl, tv⟩, hR4840, rfl⟩
        ·rintro j s5027 y5038 hr5036 hz5037 a w ⟨ad5028, cap5029, ad5030, cap5031, css5032, K5033, hS, hA, hR5034, hln5035⟩
         refine TG.ap ?_ hS hA
         unfold m42_9 at hr5036
         refine sq (rg (ltI rfl rfl rfl (on (sq ?_))))
         refine ci rfl (fun hc5042 => ?_) (fun hc5042 => ?_)
         ·have hr5043 := if_p hc5042 hr5036
          refine sk (sq (bk (sq (rg ?_))))
          obtain ⟨x5116, hx5117, hr5118⟩ := bd_some hr5043
          refine TG.addr 4 rfl (lt_of0 hx5117) fun b5119 h => ?_; subst h
          refine iaP U86 Z3 rfl rfl rfl rfl (Nat.lt_of_lt_of_eq (lt_of hx5117) hln1892) (ld G3 rfl rfl (sE 4 rfl (fun _ => rfl) hx5117) rfl (a1 rfl (on (sq ?_))))
          obtain ⟨hk5120, hr5121⟩ := chk_some hr5118
          obtain ⟨x5122, hx5123, hr5124⟩ := bd_some hr5121
          obtain ⟨p5125, rfl⟩ := h_requests.adr hx5123
          obtain ⟨cs5126, hcs5127, hq5128, hr5129⟩ := h_requests.at hx5123
          have hr5130 := hr5129
          obtain ⟨ad5131, cap5132, rfl, hl5133⟩ := hr5129
          have := hl5133.len
          obtain ⟨r5134, hx5135, hr5136⟩ := bd_some hr5124
          refine drG 11 mixed (by kernel_rfl) rfl (dt rfl (m1 rfl fin1) (dt rfl (nl rfl rfl fin1) (dt rfl (fb 7 U133 rfl rfl rfl rfl Z59 fin1) (dt rfl (ld G59 rfl rfl ((sO 2 rfl).drop 7) rfl fin1) (dt rfl (m1 rfl fin1) (dt rfl (m1 rfl fin1) (dt rfl (ld G64 rfl rfl (sS 5 rfl hK1119) rfl fin1) (dt rfl (m1 rfl fin1) (dt rfl (iaP U64 Z63 rfl rfl rfl (by omega) (lt_of hx5123) fin1) (dt rfl (ldA G63 Z63 rfl rfl (sS 11 rfl hq5128) rfl fin1) (dt rfl (clL C90 rfl rfl rfl rfl (fun w hS => w90 (Hp.le.refl (hp w)) (hg.mono (hS.hp 11 rfl)) (⟨r_2, r1120.1, s5027.2.2.1, s5027.2.1, s5027.2.2.2⟩ : decided) (cell_at (hS.get (t := 2) rfl)) ⟨ad10, cap11, (.map b1132), ad1129, cap1130, ad5030, cap5031, ad5028, cap5029, (some ⟨b1159, 0, none⟩), requests.length, (by simp only [hln5035]), (hl12.mono (Flat.mono _) (hS.hp 11 rfl)), (hm1128.mono (hS.hp 4 rfl)), (hl1131.mono (Flat.mono _) (hS.hp 4 rfl)), (rows_sl (H := hp w) (hS.get (t := 7) rfl) (hR5034.mono (RRequest.mono) (hS.hp 1 rfl)) (fun _ _ _ ho => ho)), (list_sl (H := hp w) (enc := encI .i64) (size := 1) (ad := ad5028) (cap := cap5029) (el := 3) (l := s5027.2.1) (fun _ => rfl) (hS.get (t := 8) rfl) (fun _ _ _ ho => ho)), (list_sl (H := hp w) (enc := encI .i64) (size := 1) (ad := (some ⟨b1159, 0, none⟩)) (cap := requests.length) (el := 31) (l := s5027.2.2.2) (fun _ => rfl) (hS.get (t := 1) rfl) (fun _ _ _ ho => ho))⟩ x5122 (RRequest.mono _ _ _ _ (hS.hp 11 rfl) hr5130) hx5135) fin1) ?_)))))))))))
          refine DF.nil fun K5137 hF => ?_
          obtain ⟨x5138, hx5139, hr5140⟩ := bd_some hr5136
          refine iaP U59 Z31 rfl rfl rfl (by omega) (Nat.lt_of_lt_of_eq (lt_of hx5139) hln5035) ?_
          have hln5141 : (s5027.2.2.2.set x5116.toNat r5134).length = (List.replicate requests.length (0 : Int)).length := (lenS _ _ _).trans hln5035
          refine stE 1 r5134 (q := ⟨b1159, 0, none⟩) (j := x5116.toNat) (size := 1) (cs := [.int .i64 r5134]) (off := 0) Z31 rfl rfl rfl (fun _ => rfl) hx5139 rfl rfl rfl rfl rfl (on (sq (rg (m1 rfl (nl rfl rfl (fb 7 U133 rfl rfl rfl rfl Z59 (ld G59 rfl rfl ((sO 2 rfl).drop 7) rfl (m1 rfl ?_))))))))
          obtain ⟨x5142, hx5143, hr5144⟩ := bd_some hr5140
          refine iaP U59 Z31 rfl rfl rfl (by omega) (Nat.lt_of_lt_of_eq (lt_of hx5143) hln5141) (ld G31 rfl rfl (sE 1 rfl (fun _ => rfl) hx5143) rfl (eqI rfl rfl rfl (on ?_)))
          obtain ⟨t5180, hx5181, hr5182⟩ := bd_some hr5144
          refine jn (fun a w => ∃ (ad5183 : Option Addr) (cap5184 : Nat) (ad5185 : Option Addr) (cap5186 : Nat) (css5187 : List (List Value)) (K5188 : Hp), St M W H [K5188, K5137, K5033, K1160, K1134, K1123, K1118, K1115, K1112, K20, K17, K14, H] [(8, Own.list ad5183 cap5184 3 1 (encI .i64) t5180.1), (7, Own.rows ad5185 cap5186 63 5 css5187 t5180.2), (4, Own.list (some ⟨b5119, 0, none⟩) cap1199 3 1 (encI .i64) t1889), (2, cel b1161 133 [.slice ad10 r_2.words.length cap11, .int .i64 r_2.out, .int .i64 r_2.within, .map b1132, .slice ad1129 r1120.1.swaps.length cap1130, .slice ad5185 t5180.2.length cap5186, .slice ad5183 t5180.1.length cap5184, .slice (some ⟨b1159, 0, none⟩) ((List.replicate requests.length (0 : Int)).length) requests.length]), (1, Own.list (some ⟨b1159, 0, none⟩) requests.length 31 1 (encI .i64) (s5027.2.2.2.set x5116.toNat r5134))] w ∧ Has [] 106 a [(7, .pointer (some q1117)), (13, .pointer (some (⟨b1161, 0, none⟩))), (55, .slice (some ⟨b5119, 0, none⟩) e1195.length cap1199), (56, .int .i64 (e1195.length : Int)), (57, .int .i64 (s5027.1 : Int))] ∧ Rows (RRequest) 5 K5188 css5187 t5180.2) ?_ ?_
          ·refine ci rfl (fun hc5190 => ?_) (fun hc5190 => ?_)
           ·have hr5191 := if_p hc5190 hx5181
            obtain ⟨hk5201, hr5202⟩ := chk_some hr5191
            have := lenA s5027.2.2.1 ([x5122] : List Request)
            obtain ⟨hk5219, hr5220⟩ := chk_some hr5202
            have := lenA s5027.2.1 ([x5116] : List Int)
            refine drG3 19 [11, 18] [(1, 82, .pointer (some (⟨b1161, 0, none⟩)))] mixed (fun _ _ _ _ _ h => h) (by kernel_rfl) (by kernel_rfl) (by kernel_rfl) rfl (by kernel_rfl) (.cons rfl rfl rfl (fun _ => rfl) (by kernel_rfl) (by kernel_rfl) (fun _ _ => rfl) (mvY rfl) (.nil)) (DC.detA rfl rfl rfl (fun τ a w K hS hA hF => TG.pa hS hA (m1 rfl fin1)) (DC.pre (.head _) rfl (dc rfl (by kernel_rfl) tv rfl rfl (m1 rfl fin1) (dc rfl (by kernel_rfl) tv rfl rfl (nl rfl rfl fin1) (dc rfl (by kernel_rfl) tv rfl rfl (fb 5 U133 rfl rfl rfl rfl Z64 fin1) (dc rfl (by kernel_rfl) tv rfl rfl (ld G64 rfl rfl (((sO 2 rfl).drop 5).take 1) rfl fin1) (dc rfl (by kernel_rfl) tv rfl rfl (ld G64 rfl rfl (sS 6 rfl hK1119) rfl fin1) (dc rfl (by kernel_rfl) tv rfl rfl (m1 rfl fin1) (dc rfl (by kernel_rfl) tv rfl rfl (iaP U64 Z63 rfl rfl rfl (by omega) (lt_of hx5123) fin1) (dc rfl (by kernel_rfl) tv rfl rfl (ldA G63 Z63 rfl rfl (sS 12 rfl hq5128) rfl fin1) ?_))))))))))
            refine DC.und (α := Option Addr × Nat) (none, 0) (fun q => .slice q.1 1 q.2) (fun (q : Option Addr × Nat) K => Sl (RRequest) 5 K q.1 q.2 ([x5122] : List Request)) (fun τ => τ = [(8, Own.list ad5028 cap5029 3 1 (encI .i64) s5027.2.1), (7, Own.rows ad5030 cap5031 63 5 css5032 s5027.2.2.1), (4, Own.list (some ⟨b5119, 0, none⟩) cap1199 3 1 (encI .i64) t1889), (2, cel b1161 133 [.slice ad10 r_2.words.length cap11, .int .i64 r_2.out, .int .i64 r_2.within, .map b1132, .slice ad1129 r1120.1.swaps.length cap1130, .slice ad5030 s5027.2.2.1.length cap5031, .slice ad5028 s5027.2.1.length cap5029, .slice (some ⟨b1159, 0, none⟩) ((List.replicate requests.length (0 : Int)).length) requests.length]), (1, Own.list (some ⟨b1159, 0, none⟩) requests.length 31 1 (encI .i64) (s5027.2.2.2.set x5116.toNat r5134))]) rfl rfl (by kernel_rfl) tv (fun _ _ _ h x => x.mono (RRequest.mono) h) (by kernel_rfl) rfl rfl (fun τ hτ a w K hS hA hF => by subst hτ <;> exact TG.pa hS hA (bS (cs := [.int .i64 x5122.by_, .int .i64 x5122.minute, .int .i64 x5122.from_, .int .i64 x5122.cut, .slice ad5131 x5122.put_.length cap5132]) T4.E64 rfl rfl rfl rfl fun q5192 K5193 hq5194 hK5195 => by
              refine TG.pack (fun K => Sl (RRequest) 5 K (some q5192) 1 ([x5122] : List Request)) (fun H le => Sl.litR (css := [[.int .i64 x5122.by_, .int .i64 x5122.minute, .int .i64 x5122.from_, .int .i64 x5122.cut, .slice ad5131 x5122.put_.length cap5132]]) (l := ([x5122] : List Request)) ⟨⟨rfl, rfl, (RRequest.mono _ _ _ _ (le.at 13 rfl) hr5130)⟩, tv⟩ hq5194 (hK5195.mono (le.at 0 rfl)) rfl) fun K5197 hl5196 => ?_
              have := hl5196.len
              refine sk1 ?_
              exact finU (f := fun q => .slice q.1 1 q.2) (G := (fun (q : Option Addr × Nat) K => Sl (RRequest) 5 K q.1 q.2 ([x5122] : List Request))) (_, _) (fun _ _ _ h x => x.mono (RRequest.mono) h) hl5196)) ?_
            rintro ⟨ad5199, cap5200⟩
            refine DC.turn (α := Option Addr × Nat × List (List Value)) (none, 0, []) (fun q => .slice q.1 ((s5027.2.2.1 ++ ([x5122] : List Request)).length) q.2.1) (fun (q : Option Addr × Nat × List (List Value)) K => Rows (RRequest) 5 K q.2.2 (s5027.2.2.1 ++ ([x5122] : List Request))) (fun q => [(8, Own.list ad5028 cap5029 3 1 (encI .i64) s5027.2.1), (7, Own.rows q.1 q.2.1 63 5 q.2.2 (s5027.2.2.1 ++ ([x5122] : List Request))), (4, Own.list (some ⟨b5119, 0, none⟩) cap1199 3 1 (encI .i64) t1889), (2, cel b1161 133 [.slice ad10 r_2.words.length cap11, .int .i64 r_2.out, .int .i64 r_2.within, .map b1132, .slice ad1129 r1120.1.swaps.length cap1130, .slice ad5030 s5027.2.2.1.length cap5031, .slice ad5028 s5027.2.1.length cap5029, .slice (some ⟨b1159, 0, none⟩) ((List.replicate requests.length (0 : Int)).length) requests.length]), (1, Own.list (some ⟨b1159, 0, none⟩) requests.length 31 1 (encI .i64) (s5027.2.2.2.set x5116.toNat r5134))]) rfl (fun _ _ _ h x => x.mono (RRequest.mono) h) (by kernel_rfl) rfl rfl (fun a w K hS hA hF => TG.pa hS hA (TG.pack (fun K => Sl (RRequest) 5 K ad5199 cap5200 ([x5122] : List Request) ∧ Rows (RRequest) 5 K css5032 s5027.2.2.1) (fun H le => ⟨(hF.1 rfl).mono (RRequest.mono) (le.at 0 rfl), hR5034.mono (RRequest.mono) (le.at 2 rfl)⟩) fun K5205 ⟨hm5206, hR5207⟩ => apR 7 (l := s5027.2.2.1) (m := ([x5122] : List Request)) T4.E64 rfl rfl rfl rfl rfl rfl hm5206 hR5207 RRequest.one rfl hk5201 fun ad5203 cap5204 css5209 hR5208 => finV (f := fun (q : Option Addr × Nat × List (List Value)) => .slice q.1 ((s5027.2.2.1 ++ ([x5122] : List Request)).length) q.2.1) (G := (fun (q : Option Addr × Nat × List (List Value)) K => Rows (RRequest) 5 K q.2.2 (s5027.2.2.1 ++ ([x5122] : List Request)))) (σ1 := fun q => [(8, Own.list ad5028 cap5029 3 1 (encI .i64) s5027.2.1), (7, Own.rows q.1 q.2.1 63 5 q.2.2 (s5027.2.2.1 ++ ([x5122] : List Request))), (4, Own.list (some ⟨b5119, 0, none⟩) cap1199 3 1 (encI .i64) t1889), (2, cel b1161 133 [.slice ad10 r_2.words.length cap11, .int .i64 r_2.out, .int .i64 r_2.within, .map b1132, .slice ad1129 r1120.1.swaps.length cap1130, .slice ad5030 s5027.2.2.1.length cap5031, .slice ad5028 s5027.2.1.length cap5029, .slice (some ⟨b1159, 0, none⟩) ((List.replicate requests.length (0 : Int)).length) requests.length]), (1, Own.list (some ⟨b1159, 0, none⟩) requests.length 31 1 (encI .i64) (s5027.2.2.2.set x5116.toNat r5134))]) (ad5203, cap5204, css5209) (fun _ _ _ h x => x.mono (RRequest.mono) h) hR5208)) ?_
            rintro ⟨ad5203, cap5204, css5209⟩
            refine DC.det (fun τ => τ = [(8, Own.list ad5028 cap5029 3 1 (encI .i64) s5027.2.1), (7, Own.rows ad5203 cap5204 63 5 css5209 (s5027.2.2.1 ++ ([x5122] : List Request))), (4, Own.list (some ⟨b5119, 0, none⟩) cap1199 3 1 (encI .i64) t1889), (2, cel b1161 133 [.slice ad10 r_2.words.length cap11, .int .i64 r_2.out, .int .i64 r_2.within, .map b1132, .slice ad1129 r1120.1.swaps.length cap1130, .slice ad5030 s5027.2.2.1.length cap5031, .slice ad5028 s5027.2.1.length cap5029, .slice (some ⟨b1159, 0, none⟩) ((List.replicate requests.length (0 : Int)).length) requests.length]), (1, Own.list (some ⟨b1159, 0, none⟩) requests.length 31 1 (encI .i64) (s5027.2.2.2.set x5116.toNat r5134))] ∨ τ = [(8, Own.list ad5028 cap5029 3 1 (encI .i64) s5027.2.1), (7, Own.rows ad5030 cap5031 63 5 css5032 s5027.2.2.1), (4, Own.list (some ⟨b5119, 0, none⟩) cap1199 3 1 (encI .i64) t1889), (2, cel b1161 133 [.slice ad10 r_2.words.length cap11, .int .i64 r_2.out, .int .i64 r_2.within, .map b1132, .slice ad1129 r1120.1.swaps.length cap1130, .slice ad5030 s5027.2.2.1.length cap5031, .slice ad5028 s5027.2.1.length cap5029, .slice (some ⟨b1159, 0, none⟩) ((List.replicate requests.length (0 : Int)).length) requests.length]), (1, Own.list (some ⟨b1159, 0, none⟩) requests.length 31 1 (encI .i64) (s5027.2.2.2.set x5116.toNat r5134))]) rfl (.inl rfl) (by kernel_rfl) ⟨.inl (.inr (rfl)), tv⟩ rfl rfl (fun τ hτ a w K hS hA hF => by rcases hτ with rfl | rfl <;> exact TG.pa hS hA (m1 rfl fin1)) ?_
            refine DC.det (fun τ => τ = [(8, Own.list ad5028 cap5029 3 1 (encI .i64) s5027.2.1), (7, Own.rows ad5203 cap5204 63 5 css5209 (s5027.2.2.1 ++ ([x5122] : List Request))), (4, Own.list (some ⟨b5119, 0, none⟩) cap1199 3 1 (encI .i64) t1889), (2, cel b1161 133 [.slice ad10 r_2.words.length cap11, .int .i64 r_2.out, .int .i64 r_2.within, .map b1132, .slice ad1129 r1120.1.swaps.length cap1130, .slice ad5030 s5027.2.2.1.length cap5031, .slice ad5028 s5027.2.1.length cap5029, .slice (some ⟨b1159, 0, none⟩) ((List.replicate requests.length (0 : Int)).length) requests.length]), (1, Own.list (some ⟨b1159, 0, none⟩) requests.length 31 1 (encI .i64) (s5027.2.2.2.set x5116.toNat r5134))] ∨ τ = [(8, Own.list ad5028 cap5029 3 1 (encI .i64) s5027.2.1), (7, Own.rows ad5030 cap5031 63 5 css5032 s5027.2.2.1), (4, Own.list (some ⟨b5119, 0, none⟩) cap1199 3 1 (encI .i64) t1889), (2, cel b1161 133 [.slice ad10 r_2.words.length cap11, .int .i64 r_2.out, .int .i64 r_2.within, .map b1132, .slice ad1129 r1120.1.swaps.length cap1130, .slice ad5030 s5027.2.2.1.length cap5031, .slice ad5028 s5027.2.1.length cap5029, .slice (some ⟨b1159, 0, none⟩) ((List.replicate requests.length (0 : Int)).length) requests.length]), (1, Own.list (some ⟨b1159, 0, none⟩) requests.length 31 1 (encI .i64) (s5027.2.2.2.set x5116.toNat r5134))]) rfl (.inl rfl) (by kernel_rfl) ⟨.inl (.inr (rfl)), tv⟩ rfl rfl (fun τ hτ a w K hS hA hF => by rcases hτ with rfl | rfl <;> exact TG.pa hS hA (nl rfl rfl fin1)) ?_
            refine DC.det (fun τ => τ = [(8, Own.list ad5028 cap5029 3 1 (encI .i64) s5027.2.1), (7, Own.rows ad5203 cap5204 63 5 css5209 (s5027.2.2.1 ++ ([x5122] : List Request))), (4, Own.list (some ⟨b5119, 0, none⟩) cap1199 3 1 (encI .i64) t1889), (2, cel b1161 133 [.slice ad10 r_2.words.length cap11, .int .i64 r_2.out, .int .i64 r_2.within, .map b1132, .slice ad1129 r1120.1.swaps.length cap1130, .slice ad5030 s5027.2.2.1.length cap5031, .slice ad5028 s5027.2.1.length cap5029, .slice (some ⟨b1159, 0, none⟩) ((List.replicate requests.length (0 : Int)).length) requests.length]), (1, Own.list (some ⟨b1159, 0, none⟩) requests.length 31 1 (encI .i64) (s5027.2.2.2.set x5116.toNat r5134))] ∨ τ = [(8, Own.list ad5028 cap5029 3 1 (encI .i64) s5027.2.1), (7, Own.rows ad5030 cap5031 63 5 css5032 s5027.2.2.1), (4, Own.list (some ⟨b5119, 0, none⟩) cap1199 3 1 (encI .i64) t1889), (2, cel b1161 133 [.slice ad10 r_2.words.length cap11, .int .i64 r_2.out, .int .i64 r_2.within, .map b1132, .slice ad1129 r1120.1.swaps.length cap1130, .slice ad5030 s5027.2.2.1.length cap5031, .slice ad5028 s5027.2.1.length cap5029, .slice (some ⟨b1159, 0, none⟩) ((List.replicate requests.length (0 : Int)).length) requests.length]), (1, Own.list (some ⟨b1159, 0, none⟩) requests.length 31 1 (encI .i64) (s5027.2.2.2.set x5116.toNat r5134))]) rfl (.inl rfl) (by kernel_rfl) ⟨.inl (.inr (rfl)), tv⟩ rfl rfl (fun τ hτ a w K hS hA hF => by rcases hτ with rfl | rfl <;> exact TG.pa hS hA (fb 6 U133 rfl rfl rfl rfl Z86 fin1)) ?_
            refine DC.det (fun τ => τ = [(8, Own.list ad5028 cap5029 3 1 (encI .i64) s5027.2.1), (7, Own.rows ad5203 cap5204 63 5 css5209 (s5027.2.2.1 ++ ([x5122] : List Request))), (4, Own.list (some ⟨b5119, 0, none⟩) cap1199 3 1 (encI .i64) t1889), (2, cel b1161 133 [.slice ad10 r_2.words.length cap11, .int .i64 r_2.out, .int .i64 r_2.within, .map b1132, .slice ad1129 r1120.1.swaps.length cap1130, .slice ad5030 s5027.2.2.1.length cap5031, .slice ad5028 s5027.2.1.length cap5029, .slice (some ⟨b1159, 0, none⟩) ((List.replicate requests.length (0 : Int)).length) requests.length]), (1, Own.list (some ⟨b1159, 0, none⟩) requests.length 31 1 (encI .i64) (s5027.2.2.2.set x5116.toNat r5134))] ∨ τ = [(8, Own.list ad5028 cap5029 3 1 (encI .i64) s5027.2.1), (7, Own.rows ad5030 cap5031 63 5 css5032 s5027.2.2.1), (4, Own.list (some ⟨b5119, 0, none⟩) cap1199 3 1 (encI .i64) t1889), (2, cel b1161 133 [.slice ad10 r_2.words.length cap11, .int .i64 r_2.out, .int .i64 r_2.within, .map b1132, .slice ad1129 r1120.1.swaps.length cap1130, .slice ad5030 s5027.2.2.1.length cap5031, .slice ad5028 s5027.2.1.length cap5029, .slice (some ⟨b1159, 0, none⟩) ((List.replicate requests.length (0 : Int)).length) requests.length]), (1, Own.list (some ⟨b1159, 0, none⟩) requests.length 31 1 (encI .i64) (s5027.2.2.2.set x5116.toNat r5134))]) rfl (.inl rfl) (by kernel_rfl) ⟨.inl (.inr (rfl)), tv⟩ rfl rfl (fun τ hτ a w K hS hA hF => by rcases hτ with rfl | rfl <;> exact TG.pa hS hA (ld G86 rfl rfl (((sO 2 rfl).drop 6).take 1) rfl fin1)) ?_
            refine DC.det (fun τ => τ = [(8, Own.list ad5028 cap5029 3 1 (encI .i64) s5027.2.1), (7, Own.rows ad5203 cap5204 63 5 css5209 (s5027.2.2.1 ++ ([x5122] : List Request))), (4, Own.list (some ⟨b5119, 0, none⟩) cap1199 3 1 (encI .i64) t1889), (2, cel b1161 133 [.slice ad10 r_2.words.length cap11, .int .i64 r_2.out, .int .i64 r_2.within, .map b1132, .slice ad1129 r1120.1.swaps.length cap1130, .slice ad5030 s5027.2.2.1.length cap5031, .slice ad5028 s5027.2.1.length cap5029, .slice (some ⟨b1159, 0, none⟩) ((List.replicate requests.length (0 : Int)).length) requests.length]), (1, Own.list (some ⟨b1159, 0, none⟩) requests.length 31 1 (encI .i64) (s5027.2.2.2.set x5116.toNat r5134))] ∨ τ = [(8, Own.list ad5028 cap5029 3 1 (encI .i64) s5027.2.1), (7, Own.rows ad5030 cap5031 63 5 css5032 s5027.2.2.1), (4, Own.list (some ⟨b5119, 0, none⟩) cap1199 3 1 (encI .i64) t1889), (2, cel b1161 133 [.slice ad10 r_2.words.length cap11, .int .i64 r_2.out, .int .i64 r_2.within, .map b1132, .slice ad1129 r1120.1.swaps.length cap1130, .slice ad5030 s5027.2.2.1.length cap5031, .slice ad5028 s5027.2.1.length cap5029, .slice (some ⟨b1159, 0, none⟩) ((List.replicate requests.length (0 : Int)).length) requests.length]), (1, Own.list (some ⟨b1159, 0, none⟩) requests.length 31 1 (encI .i64) (s5027.2.2.2.set x5116.toNat r5134))]) rfl (.inl rfl) (by kernel_rfl) ⟨.inl (.inr (rfl)), tv⟩ rfl rfl (fun τ hτ a w K hS hA hF => by rcases hτ with rfl | rfl <;> exact TG.pa hS hA (m1 rfl fin1)) ?_
            refine DC.und (α := Option Addr × Nat) (none, 0) (fun q => .slice q.1 1 q.2) (fun (q : Option Addr × Nat) K => Sl (Flat (encI .i64)) 1 K q.1 q.2 ([x5116] : List Int)) (fun τ => τ = [(8, Own.list ad5028 cap5029 3 1 (encI .i64) s5027.2.1), (7, Own.rows ad5203 cap5204 63 5 css5209 (s5027.2.2.1 ++ ([x5122] : List Request))), (4, Own.list (some ⟨b5119, 0, none⟩) cap1199 3 1 (encI .i64) t1889), (2, cel b1161 133 [.slice ad10 r_2.words.length cap11, .int .i64 r_2.out, .int .i64 r_2.within, .map b1132, .slice ad1129 r1120.1.swaps.length cap1130, .slice ad5030 s5027.2.2.1.length cap5031, .slice ad5028 s5027.2.1.length cap5029, .slice (some ⟨b1159, 0, none⟩) ((List.replicate requests.length (0 : Int)).length) requests.length]), (1, Own.list (some ⟨b1159, 0, none⟩) requests.length 31 1 (encI .i64) (s5027.2.2.2.set x5116.toNat r5134))] ∨ τ = [(8, Own.list ad5028 cap5029 3 1 (encI .i64) s5027.2.1), (7, Own.rows ad5030 cap5031 63 5 css5032 s5027.2.2.1), (4, Own.list (some ⟨b5119, 0, none⟩) cap1199 3 1 (encI .i64) t1889), (2, cel b1161 133 [.slice ad10 r_2.words.length cap11, .int .i64 r_2.out, .int .i64 r_2.within, .map b1132, .slice ad1129 r1120.1.swaps.length cap1130, .slice ad5030 s5027.2.2.1.length cap5031, .slice ad5028 s5027.2.1.length cap5029, .slice (some ⟨b1159, 0, none⟩) ((List.replicate requests.length (0 : Int)).length) requests.length]), (1, Own.list (some ⟨b1159, 0, none⟩) requests.length 31 1 (encI .i64) (s5027.2.2.2.set x5116.toNat r5134))]) rfl (.inl rfl) (by kernel_rfl) ⟨.inl (.inr (rfl)), tv⟩ (fun _ _ _ h x => x.mono (Flat.mono _) h) (by kernel_rfl) rfl rfl (fun τ hτ a w K hS hA hF => by rcases hτ with rfl | rfl <;> exact TG.pa hS hA (bS (cs := [.int .i64 x5116]) T4.E86 rfl rfl rfl rfl fun q5211 K5212 hq5213 hK5214 => by
              have hl5215 : Sl (Flat (encI .i64)) 1 K5212 (some q5211) 1 ([x5116] : List Int) := Sl.litR (css := [[.int .i64 x5116]]) (l := ([x5116] : List Int)) ⟨⟨rfl, rfl, rfl⟩, tv⟩ hq5213 hK5214 rfl
              have := hl5215.len
              exact finU (f := fun q => .slice q.1 1 q.2) (G := (fun (q : Option Addr × Nat) K => Sl (Flat (encI .i64)) 1 K q.1 q.2 ([x5116] : List Int))) (_, _) (fun _ _ _ h x => x.mono (Flat.mono _) h) hl5215)) ?_
            rintro ⟨ad5217, cap5218⟩
            refine DC.turn (α := Option Addr × Nat) (none, 0) (fun q => .slice q.1 ((s5027.2.1 ++ ([x5116] : List Int)).length) q.2) (fun _ _ => True) (fun q => [(8, Own.list q.1 q.2 3 1 (encI .i64) (s5027.2.1 ++ ([x5116] : List Int))), (7, Own.rows ad5203 cap5204 63 5 css5209 (s5027.2.2.1 ++ ([x5122] : List Request))), (4, Own.list (some ⟨b5119, 0, none⟩) cap1199 3 1 (encI .i64) t1889), (2, cel b1161 133 [.slice ad10 r_2.words.length cap11, .int .i64 r_2.out, .int .i64 r_2.within, .map b1132, .slice ad1129 r1120.1.swaps.length cap1130, .slice ad5030 s5027.2.2.1.length cap5031, .slice ad5028 s5027.2.1.length cap5029, .slice (some ⟨b1159, 0, none⟩) ((List.replicate requests.length (0 : Int)).length) requests.length]), (1, Own.list (some ⟨b1159, 0, none⟩) requests.length 31 1 (encI .i64) (s5027.2.2.2.set x5116.toNat r5134))]) rfl (fun _ _ _ _ h => h) (by kernel_rfl) rfl rfl (fun a w K hS hA hF => TG.pa hS hA (apS 8 (enc := encI .i64) (l := s5027.2.1) (m := ([x5116] : List Int)) T4.E86 rfl rfl rfl rfl rfl rfl (hF.1 rfl) 0 rfl (fun _ => rfl) (fun _ => rfl) rfl hk5219 fun ad5221 cap5222 => finT (f := fun q => .slice q.1 ((s5027.2.1 ++ ([x5116] : List Int)).length) q.2) (G := fun _ _ => True) (σ1 := fun q => [(8, Own.list q.1 q.2 3 1 (encI .i64) (s5027.2.1 ++ ([x5116] : List Int))), (7, Own.rows ad5203 cap5204 63 5 css5209 (s5027.2.2.1 ++ ([x5122] : List Request))), (4, Own.list (some ⟨b5119, 0, none⟩) cap1199 3 1 (encI .i64) t1889), (2, cel b1161 133 [.slice ad10 r_2.words.length cap11, .int .i64 r_2.out, .int .i64 r_2.within, .map b1132, .slice ad1129 r1120.1.swaps.length cap1130, .slice ad5030 s5027.2.2.1.length cap5031, .slice ad5028 s5027.2.1.length cap5029, .slice (some ⟨b1159, 0, none⟩) ((List.replicate requests.length (0 : Int)).length) requests.length]), (1, Own.list (some ⟨b1159, 0, none⟩) requests.length 31 1 (encI .i64) (s5027.2.2.2.set x5116.toNat r5134))]) (_, _) tv)) ?_
            rintro ⟨ad5221, cap5222⟩
            refine DC.nil fun K5223 hF => ?_
            obtain ⟨_, hu5216, hu5210, hu5198, _⟩ := hF
            have := hu5198.len
            have := hu5216.len
            refine nl rfl rfl (fb 5 U133 rfl rfl rfl rfl Z64 (sto 2 (cs := [.slice ad5203 ((s5027.2.2.1 ++ ([x5122] : List Request)).length) cap5204]) Z64 rfl rfl rfl rfl rfl rfl rfl (nl rfl rfl (fb 6 U133 rfl rfl rfl rfl Z86 (sto 2 (cs := [.slice ad5221 ((s5027.2.1 ++ ([x5116] : List Int)).length) cap5222]) Z86 rfl rfl rfl rfl rfl rfl rfl (on ?_))))))
            cases hr5220
            intro a w hS hA
            exact ⟨ad5221, cap5222, ad5203, cap5204, css5209, K5223, hS, hA.cut ⟨rfl, rfl, rfl, rfl, rfl, tv⟩, hu5210⟩
           ·have hr5224 := if_n hc5190 hx5181
            refine sk ?_
            cases hr5224
            intro a w hS hA
            exact ⟨ad5028, cap5029, ad5030, cap5031, css5032, K5033, hS.selH [1, 0, 1, 2, 3, 4, 5, 6, 7, 8, 9, 10, 11] rfl, hA.cut ⟨rfl, rfl, rfl, rfl, rfl, tv⟩, hR5034⟩
          ·rintro a w ⟨ad5183, cap5184, ad5185, cap5186, css5187, K5188, hS, hA, hR5189⟩
           refine TG.ap ?_ hS hA
           refine rg (adI rfl rfl rfl (by omega) (m1 rfl (on ?_)))
           cases hr5182
           intro a w hS hA
           exact ⟨_, hz5037, ad5183, cap5184, ad5185, cap5186, css5187, K5188, hS.selH [0, 3, 4, 5, 6, 7, 8, 9, 10, 11, 12] rfl, hA.cut ⟨rfl, rfl, rfl, rfl, rfl, tv⟩, hR5189, hln5141⟩
         ·have hr5225 := if_n hc5042 hr5036
          refine xt rfl ?_
          cases hr5225
          obtain rfl := Fin.out hz5037
          intro a w hS hA
          exact ⟨ad5028, cap5029, ad5030, cap5031, css5032, K5033, hS, hA.cut ⟨rfl, tv⟩, hR5034, hln5035⟩
       ·rintro a w ⟨ad5019, cap5020, ad5021, cap5022, css5023, K5024, hS, hA, hR5025, hln5026⟩
        refine TG.ap ?_ hS hA
        refine sq (rg (m1 rfl (a1 rfl (a1 rfl (on (rt_ (TG.del 4 (TG.as 2 (z := cel b1161 133 [.slice ad10 r_2.words.length cap11, .int .i64 r_2.out, .int .i64 r_2.within, .map b1132, .slice ad1129 r1120.1.swaps.length cap1130, .slice ad5021 e5016.2.1.length cap5022, .slice ad5019 e5016.1.length cap5020, .slice (some ⟨b1159, 0, none⟩) e5016.2.2.length requests.length]) rfl (by rw [hln5026]) ?_))))))))
        cases hr5018
        intro a w hS hA
        refine ret2 hA rfl rfl rfl ?_
        exact ⟨_, rfl, .inr (⟨_, rfl, b1161, ad5019, cap5020, ad5021, cap5022, css5023, K5024, ad10, cap11, H, .map b1132, K1123, ad1129, cap1130, K1123, (some ⟨b1159, 0, none⟩), requests.length, rfl, hS.selH [0, 10, 3, 3, 7, 8, 9, 10] rfl, hR5025, hl12, hm1128, hl1131⟩)⟩
 ·rintro a w v hA (⟨t1088, rfl, rfl, hS⟩ | ⟨t1089, rfl, b1090, ad1091, cap1092, ad1093, cap1094, css1095, K1096, ad1098, cap1099, K1100, mp1102, K1103, ad1105, cap1106, K1107, ad1109, cap1110, rfl, hS, hR1097, hl1101, hm1104, hl1108⟩)
  ·refine putK rfl hA hS (m1 rfl (ex rfl rfl rfl (ex rfl rfl rfl (va (cs := [.pointer none]) Tryz.zeroValue129 Z129 rfl rfl rfl rfl rfl rfl rfl rfl fun q5226 K5227 hK5228 => (a1 rfl (on (sq (sq (rg (m1 rfl (neI rfl rfl rfl ?_)))))))))))
   refine on ?_
   refine ci rfl (fun hc5232 => ?_) (fun hc5232 => ?_)
   ·have hr5233 := if_p hc5232 hr1087
    refine sq (rg (m1 rfl (a1 rfl (a1 rfl (on (rt_ ?_))))))
    cases hr5233
    intro a w hS hA
    refine ret2 hA rfl rfl rfl ?_
    exact ⟨⟨_, _, rfl, (Sl.nil _ _ _ _ _ (by decide))⟩, hS.ext⟩
   ·have hr5234 := if_n hc5232 hr1087
    refine sk (sq (rg (ld G129 rfl rfl (sS 0 rfl hK5228) rfl ?_)))
    cases hr5234
  ·have := hl1101.len
   have := hl1108.len
   refine putK rfl hA hS (m1 rfl (ex rfl rfl rfl (ex rfl rfl rfl (va (cs := [.pointer (some (⟨b1090, 0, none⟩))]) Tryz.zeroValue129 Z129 rfl rfl rfl rfl rfl rfl rfl rfl fun q5235 K5236 hK5237 => (a1 rfl (on (sq (sq (rg (m1 rfl (neI rfl rfl rfl ?_)))))))))))
   refine on (cF rfl ((rfl : decide ((0 : Int) ≠ (0 : Int)) = false)) (sk (sq (rg (ld G129 rfl rfl (sS 0 rfl hK5237) rfl (nl rfl rfl (fb 6 U133 rfl rfl rfl rfl Z86 (ld G86 rfl rfl (((sO 2 rfl).drop 6).take 1) rfl (fn rfl rfl rfl ?_)))))))))
   obtain ⟨l5238, hx5239, hr5240⟩ := bd_some hr1087
   have hln5241 : l5238.length = t1089.1.length := (sortO_len hx5239)
   refine srt1 8 (enc := encI .i64) (V := Vi .i64) (V' := Vi .i64) (Value.int .i64) (fun _ => rfl) (fun _ => rfl) Tryz.srt64 C64 rfl rfl rfl rfl rfl rfl (fun H le => ⟨65, [], [.pointer (some q19)], rfl, C65, fun w_ K_ args_ v_ hK hw hs => by obtain ⟨u0_, u1_, x0_, x1_, r_, rfl, h0_, h1_, hx, rfl⟩ := hs; cases h0_; cases h1_; exact w65 (H := K_) hw  x0_ x1_ (f0_ := requests) (hK21.mono ((le.at 5 rfl).trans hK)) (h_requests.mono (RRequest.mono) ((le.at 8 rfl).trans hK)) hx⟩) (fun _ _ => rfl) (fun _ _ => rfl) hx5239 (on (sq (rg (al 9 (cs := [.slice none 0 0]) Tryz.zeroValue91 rfl rfl fun b5242 => (on (sq (rg (al 10 (cs := [.int .i64 0]) Tryz.zeroValue3 rfl rfl fun b5243 => (sto 10 (cs := [.int .i64 0]) Z3 rfl rfl rfl rfl rfl rfl rfl (on (sq ?_)))))))))))
   refine rg (fn rfl rfl rfl (a1 rfl (on (sq (sq (rg (ld G129 rfl rfl (sS 0 rfl hK5237) rfl (nl rfl rfl (fb 6 U133 rfl rfl rfl rfl Z86 (ld G86 rfl rfl (((sO 2 rfl).drop 6).take 1) rfl (TG.len 8 rfl fun _ => ?_)))))))))))
   refine lnL U86 rfl rfl (m1 rfl (on (TG.nilRow 13 98 3 ?_)))
   have hR5455 : Rows (RSegment) 3 H [] ([] : List Segment) := tv
   refine TG.as 13 (z := Own.rows none 0 98 3 [] ([] : List Segment)) rfl rfl ?_
   obtain ⟨e5842, hl5843, hr5844⟩ := bd_some hr5240
   refine jn (fun a w => ∃ (ad5845 : Option Addr) (cap5846 : Nat) (css5847 : List (List Value)) (K5848 : Hp), St M W H [K5848, K5236, K1096, K1100, K1103, K1107, K20, K17, K14, H] [(13, Own.rows ad5845 cap5846 98 3 css5847 e5842.2), (10, cel b5243 3 [.int .i64 e5842.1]), (9, cel b5242 91 [.slice ad5845 e5842.2.length cap5846]), (8, Own.list ad1091 cap1092 3 1 (encI .i64) l5238), (7, Own.rows ad1093 cap1094 63 5 css1095 t1089.2.1), (2, cel b1090 133 [.slice ad1098 t1089.2.2.1.length cap1099, .int .i64 r_2.out, .int .i64 r_2.within, mp1102, .slice ad1105 t1089.2.2.2.2.1.length cap1106, .slice ad1093 t1089.2.1.length cap1094, .slice ad1091 t1089.1.length cap1092, .slice ad1109 t1089.2.2.2.2.2.length cap1110]), (1, Own.list ad1109 cap1110 31 1 (encI .i64) t1089.2.2.2.2.2)] w ∧ Has [] 79 a [(6, .pointer (some q16)), (12, .pointer (some (⟨b5242, 0, none⟩))), (14, .func (.func 67) [].toArray [.pointer (some (⟨b5243, 0, none⟩)), .pointer (some (⟨b5242, 0, none⟩)), .pointer (some q5235)].toArray)] ∧ Rows (RSegment) 3 K5848 css5847 e5842.2) ?_ ?_
   ·refine bk ?_
    refine lp hl5843 (fun s5850 a w => ∃ (ad5851 : Option Addr) (cap5852 : Nat) (css5853 : List (List Value)) (K5854 : Hp), St M W H [K5854, K5236, K1096, K1100, K1103, K1107, K20, K17, K14, H] [(13, Own.rows ad5851 cap5852 98 3 css5853 s5850.2.2), (10, cel b5243 3 [.int .i64 s5850.2.1]), (9, cel b5242 91 [.slice ad5851 s5850.2.2.length cap5852]), (8, Own.list ad1091 cap1092 3 1 (encI .i64) l5238), (7, Own.rows ad1093 cap1094 63 5 css1095 t1089.2.1), (2, cel b1090 133 [.slice ad1098 t1089.2.2.1.length cap1099, .int .i64 r_2.out, .int .i64 r_2.within, mp1102, .slice ad1105 t1089.2.2.2.2.1.length cap1106, .slice ad1093 t1089.2.1.length cap1094, .slice ad1091 t1089.1.length cap1092, .slice ad1109 t1089.2.2.2.2.2.length cap1110]), (1, Own.list ad1109 cap1110 31 1 (encI .i64) t1089.2.2.2.2.2)] w ∧ Has [] 79 a [(6, .pointer (some q16)), (7, .pointer (some q19)), (10, .pointer (some q5235)), (12, .pointer (some (⟨b5242, 0, none⟩))), (13, .pointer (some (⟨b5243, 0, none⟩))), (14, .func (.func 67) [].toArray [.pointer (some (⟨b5243, 0, none⟩)), .pointer (some (⟨b5242, 0, none⟩)), .pointer (some q5235)].toArray), (39, .slice ad1091 t1089.1.length cap1092), (40, .int .i64 (t1089.1.length : Int)), (41, .int .i64 (s5850.1 : Int))] ∧ Rows (RSegment) 3 K5854 css5853 s5850.2.2) ?_ ?_
    ·intro a w hS hA
     exact ⟨none, 0, [], H, hS.selH [8, 0, 1, 2, 3, 4, 5, 6, 7, 8] rfl, hA.cut ⟨rfl, rfl, rfl, rfl, rfl, rfl, rfl, rfl, rfl, tv⟩, hR5455⟩
    ·rintro j s5850 y5858 hr5856 hz5857 a w ⟨ad5851, cap5852, css5853, K5854, hS, hA, hR5855⟩
     refine TG.ap ?_ hS hA
     unfold m42_10 at hr5856
     refine sq (rg (ltI rfl rfl rfl (on (sq ?_))))
     refine ci rfl (fun hc5862 => ?_) (fun hc5862 => ?_)
     ·have hr5863 := if_p hc5862 hr5856
      refine sk (sq (bk (sq (rg ?_))))
      obtain ⟨x5982, hx5983, hr5984⟩ := bd_some hr5863
      refine TG.addr 8 rfl (lt_of0 hx5983) fun b5985 h => ?_; subst h
      refine iaP U86 Z3 rfl rfl rfl rfl (Nat.lt_of_lt_of_eq (lt_of hx5983) hln5241) (ld G3 rfl rfl (sE 8 rfl (fun _ => rfl) hx5983) rfl (a1 rfl (on (sq (rg (ld G64 rfl rfl (sS 6 rfl hK21) rfl (m1 rfl ?_)))))))
      obtain ⟨hk5986, hr5987⟩ := chk_some hr5984
      obtain ⟨x5988, hx5989, hr5990⟩ := bd_some hr5987
      obtain ⟨p5991, rfl⟩ := h_requests.adr hx5989
      obtain ⟨cs5992, hcs5993, hq5994, hr5995⟩ := h_requests.at hx5989
      have hr5996 := hr5995
      obtain ⟨ad5997, cap5998, rfl, hl5999⟩ := hr5995
      have := hl5999.len
      refine iaP U64 Z63 rfl rfl rfl (by omega) (lt_of hx5989) (ldA G63 Z63 rfl rfl (sS 9 rfl hq5994) rfl (va (cs := [.int .i64 x5988.by_, .int .i64 x5988.minute, .int .i64 x5988.from_, .int .i64 x5988.cut, .slice ad5997 x5988.put_.length cap5998]) Tryz.zeroValue63 Z63 rfl rfl rfl rfl rfl rfl rfl rfl fun q6000 K6001 hK6002 => (on (sq (rg (m1 rfl (fb 2 U63 rfl rfl rfl rfl Z3 (ld G3 rfl rfl (((sS 0 rfl hK6002).drop 2).take 1) rfl ?_))))))))
      obtain ⟨t6049, hx6050, hr6051⟩ := bd_some hr5990
      refine clI C67 Tryz.func67 rfl Tryz.ntmps67 rfl rfl rfl rfl (fun v w => (∃ (ad6052 : Option Addr) (cap6053 : Nat) (css6054 : List (List Value)) (K6055 : Hp), v = .tuple #[] ∧ St M W H [K6055, K6001, K5854, K5236, K1096, K1100, K1103, K1107, K20, K17, K14, H] [(13, Own.rows ad6052 cap6053 98 3 css6054 t6049), (10, cel b5243 3 [.int .i64 s5850.2.1]), (9, cel b5242 91 [.slice ad6052 t6049.length cap6053]), (8, Own.list (some ⟨b5985, 0, none⟩) cap1092 3 1 (encI .i64) l5238), (7, Own.rows ad1093 cap1094 63 5 css1095 t1089.2.1), (2, cel b1090 133 [.slice ad1098 t1089.2.2.1.length cap1099, .int .i64 r_2.out, .int .i64 r_2.within, mp1102, .slice ad1105 t1089.2.2.2.2.1.length cap1106, .slice ad1093 t1089.2.1.length cap1094, .slice (some ⟨b5985, 0, none⟩) t1089.1.length cap1092, .slice ad1109 t1089.2.2.2.2.2.length cap1110]), (1, Own.list ad1109 cap1110 31 1 (encI .i64) t1089.2.2.2.2.2)] w ∧ Rows (RSegment) 3 K6055 css6054 t6049)) ?_ ?_
      ·refine sq (rg (ld G3 rfl rfl (sO 10 rfl) rfl (m1 rfl (ltI rfl rfl rfl (on ?_)))))
       obtain ⟨t6097, hx6098, hr6099⟩ := bd_some hx6050
       refine jn (fun a w => ∃ (ad6100 : Option Addr) (cap6101 : Nat) (css6102 : List (List Value)) (K6103 : Hp), St M W H [K6103, K6001, K5854, K5236, K1096, K1100, K1103, K1107, K20, K17, K14, H] [(13, Own.rows ad6100 cap6101 98 3 css6102 t6097), (10, cel b5243 3 [.int .i64 s5850.2.1]), (9, cel b5242 91 [.slice ad6100 t6097.length cap6101]), (8, Own.list (some ⟨b5985, 0, none⟩) cap1092 3 1 (encI .i64) l5238), (7, Own.rows ad1093 cap1094 63 5 css1095 t1089.2.1), (2, cel b1090 133 [.slice ad1098 t1089.2.2.1.length cap1099, .int .i64 r_2.out, .int .i64 r_2.within, mp1102, .slice ad1105 t1089.2.2.2.2.1.length cap1106, .slice ad1093 t1089.2.1.length cap1094, .slice (some ⟨b5985, 0, none⟩) t1089.1.length cap1092, .slice ad1109 t1089.2.2.2.2.2.length cap1110]), (1, Own.list ad1109 cap1110 31 1 (encI .i64) t1089.2.2.2.2.2)] w ∧ Has [] 26 a [] ∧ Rows (RSegment) 3 K6103 css6102 t6097) ?_ ?_
       ·refine ci rfl (fun hc6105 => ?_) (fun hc6105 => ?_)
        ·have hr6106 := if_p hc6105 hx6098
         obtain ⟨r6107, hx6108, hr6109⟩ := bd_some hr6106
         refine drG 17 mixed (by kernel_rfl) rfl (dt rfl (ld G91 rfl rfl (sO 9 rfl) rfl fin1) (dt rfl (ld G129 rfl rfl (sS 3 rfl hK5237) rfl fin1) (dt rfl (nl rfl rfl fin1) (dt rfl (fb 0 U133 rfl rfl rfl rfl Z56 fin1) (dt rfl (ldA G56 Z56 rfl rfl ((sO 2 rfl).take 3) rfl fin1) (dt rfl (ld G3 rfl rfl (sO 10 rfl) rfl fin1) (dt rfl (m1 rfl fin1) ?_)))))))
         refine DF.und (α := Option Addr × Nat) (none, 0) (fun q => .slice q.1 r6107.length q.2) (fun (q : Option Addr × Nat) K => Sl (Flat encS) 1 K q.1 q.2 r6107) (fun _ _ _ h x => x.mono (Flat.mono _) h) (by kernel_rfl) rfl (fun a w K hS hA hF => TG.pa hS hA (clK C68 rfl rfl rfl rfl (fun w H hH le => w68 hH (⟨t1089.2.2.1, r_2.out, r_2.within⟩ : Report) ⟨_, _, rfl, (hl1101.mono (Flat.mono _) (le.at 5 rfl))⟩ s5850.2.1 x5988.from_ hx6108) (by
           rintro v_ K6110 ⟨ad6111, cap6112, rfl, hl6113⟩
           exact finU (f := fun q => .slice q.1 r6107.length q.2) (G := (fun (q : Option Addr × Nat) K => Sl (Flat encS) 1 K q.1 q.2 r6107)) (_, _) (fun _ _ _ h x => x.mono (Flat.mono _) h) hl6113))) ?_
         rintro ⟨ad6115, cap6116⟩
         refine dt rfl (ld G129 rfl rfl (sS 3 rfl hK5237) rfl fin1) (dt rfl (nl rfl rfl fin1) (dt rfl (fb 0 U133 rfl rfl rfl rfl Z56 fin1) (dt rfl (ldA G56 Z56 rfl rfl ((sO 2 rfl).take 3) rfl fin1) (dt rfl (ld G3 rfl rfl (sO 10 rfl) rfl fin1) (dt rfl (m1 rfl fin1) ?_)))))
         refine DF.und (α := Option Addr × Nat) (none, 0) (fun q => .slice q.1 r6107.length q.2) (fun (q : Option Addr × Nat) K => Sl (Flat encS) 1 K q.1 q.2 r6107) (fun _ _ _ h x => x.mono (Flat.mono _) h) (by kernel_rfl) rfl (fun a w K hS hA hF => TG.pa hS hA (clK C68 rfl rfl rfl rfl (fun w H hH le => w68 hH (⟨t1089.2.2.1, r_2.out, r_2.within⟩ : Report) ⟨_, _, rfl, (hl1101.mono (Flat.mono _) (le.at 5 rfl))⟩ s5850.2.1 x5988.from_ hx6108) (by
           rintro v_ K6117 ⟨ad6118, cap6119, rfl, hl6120⟩
           exact finU (f := fun q => .slice q.1 r6107.length q.2) (G := (fun (q : Option Addr × Nat) K => Sl (Flat encS) 1 K q.1 q.2 r6107)) (_, _) (fun _ _ _ h x => x.mono (Flat.mono _) h) hl6120))) ?_
         rintro ⟨ad6122, cap6123⟩
         refine DF.und () (fun _ => .agg [.slice ad6115 r6107.length cap6116, .slice ad6122 r6107.length cap6123, .int .i64 (-1)].toArray) (fun _ K => Sl (Flat encS) 1 K ad6115 cap6116 r6107 ∧ Sl (Flat encS) 1 K ad6122 cap6123 r6107) (fun _ _ _ h x => ⟨x.1.mono (Flat.mono _) h, x.2.mono (Flat.mono _) h⟩) (by kernel_rfl) rfl (fun a w K hS hA hF => TG.pa hS hA (bu (cs := [.slice ad6115 r6107.length cap6116, .slice ad6122 r6107.length cap6123, .int .i64 (-1)]) T4.B98 rfl rfl rfl (finF (f := fun _ => .agg [.slice ad6115 r6107.length cap6116, .slice ad6122 r6107.length cap6123, .int .i64 (-1)].toArray) (G := fun _ K => Sl (Flat encS) 1 K ad6115 cap6116 r6107 ∧ Sl (Flat encS) 1 K ad6122 cap6123 r6107) () ⟨(hF.2.1 rfl), (hF.1 rfl)⟩))) fun _ => ?_
         refine DF.und (α := Option Addr × Nat) (none, 0) (fun q => .slice q.1 1 q.2) (fun (q : Option Addr × Nat) K => Sl (RSegment) 3 K q.1 q.2 ([(⟨r6107, r6107, (-1)⟩ : Segment)] : List Segment)) (fun _ _ _ h x => x.mono (RSegment.mono) h) (by kernel_rfl) rfl (fun a w K hS hA hF => TG.pa hS hA (bS (cs := [.slice ad6115 r6107.length cap6116, .slice ad6122 r6107.length cap6123, .int .i64 (-1)]) T4.E91 rfl rfl rfl rfl fun q6125 K6126 hq6127 hK6128 => by
           refine TG.pack (fun K => Sl (RSegment) 3 K (some q6125) 1 ([(⟨r6107, r6107, (-1)⟩ : Segment)] : List Segment)) (fun H le => Sl.litR (css := [[.slice ad6115 r6107.length cap6116, .slice ad6122 r6107.length cap6123, .int .i64 (-1)]]) (l := ([(⟨r6107, r6107, (-1)⟩ : Segment)] : List Segment)) ⟨⟨rfl, rfl, ⟨_, _, _, _, rfl, ((hF.1 rfl).1.mono (Flat.mono _) (le.at 1 rfl)), ((hF.1 rfl).2.mono (Flat.mono _) (le.at 1 rfl))⟩⟩, tv⟩ hq6127 (hK6128.mono (le.at 0 rfl)) rfl) fun K6130 hl6129 => ?_
           have := hl6129.len
           refine sk1 ?_
           exact finU (f := fun q => .slice q.1 1 q.2) (G := (fun (q : Option Addr × Nat) K => Sl (RSegment) 3 K q.1 q.2 ([(⟨r6107, r6107, (-1)⟩ : Segment)] : List Segment))) (_, _) (fun _ _ _ h x => x.mono (RSegment.mono) h) hl6129)) ?_
         rintro ⟨ad6132, cap6133⟩
         refine DF.nil fun K6134 hF => ?_
         obtain ⟨hu6131, hu6124, hu6121, hu6114, _⟩ := hF
         have := hu6114.len
         have := hu6121.len
         have := hu6131.len
         obtain ⟨hk6135, hr6136⟩ := chk_some hr6109
         have := lenA s5850.2.2 ([(⟨r6107, r6107, (-1)⟩ : Segment)] : List Segment)
         refine TG.pack (fun K => Sl (RSegment) 3 K ad6132 cap6133 ([(⟨r6107, r6107, (-1)⟩ : Segment)] : List Segment) ∧ Rows (RSegment) 3 K css5853 s5850.2.2) (fun H le => ⟨hu6131.mono (RSegment.mono) (le.at 0 rfl), hR5855.mono (RSegment.mono) (le.at 2 rfl)⟩) fun K6139 ⟨hm6140, hR6141⟩ => (apR 13 (l := s5850.2.2) (m := ([(⟨r6107, r6107, (-1)⟩ : Segment)] : List Segment)) T4.E91 rfl rfl rfl rfl rfl rfl hm6140 hR6141 RSegment.one rfl hk6135 fun ad6137 cap6138 css6143 hR6142 => (sto 9 (cs := [.slice ad6137 ((s5850.2.2 ++ ([(⟨r6107, r6107, (-1)⟩ : Segment)] : List Segment)).length) cap6138]) Z91 rfl rfl rfl rfl rfl rfl rfl (on ?_)))
         cases hr6136
         intro a w hS hA
         exact ⟨ad6137, cap6138, css6143, K6139, hS.selH [0, 2, 3, 4, 5, 6, 7, 8, 9, 10, 11, 12] rfl, hA.cut tv, hR6142⟩
        ·have hr6144 := if_n hc6105 hx6098
         refine sk ?_
         cases hr6144
         intro a w hS hA
         exact ⟨ad5851, cap5852, css5853, K5854, hS.selH [1, 0, 1, 2, 3, 4, 5, 6, 7, 8, 9, 10] rfl, hA.cut tv, hR5855⟩
       ·rintro a w ⟨ad6100, cap6101, css6102, K6103, hS, hA, hR6104⟩
        refine TG.ap ?_ hS hA
        cases hr6099
        intro a w hS hA
        refine ret0 hA rfl ?_
        exact ⟨_, rfl, ⟨ad6100, cap6101, css6102, K6103, rfl, hS, hR6104⟩⟩
      ·rintro a w v hA (⟨ad6052, cap6053, css6054, K6055, rfl, hS, hR6056⟩)
       refine putK rfl hA hS (on (sq ?_))
       obtain ⟨r6145, hx6146, hr6147⟩ := bd_some hr6051
       obtain ⟨r6148, hx6149, hr6150⟩ := bd_some hr6147
       obtain ⟨r6158, hx6159, hr6160⟩ := bd_some hr6150
       refine drG 16 mixed (by kernel_rfl) rfl (dt rfl (ld G91 rfl rfl (sO 9 rfl) rfl fin1) (dt rfl (ld G129 rfl rfl (sS 4 rfl hK5237) rfl fin1) (dt rfl (nl rfl rfl fin1) (dt rfl (fb 0 U133 rfl rfl rfl rfl Z56 fin1) (dt rfl (ldA G56 Z56 rfl rfl ((sO 2 rfl).take 3) rfl fin1) (dt rfl (fb 2 U63 rfl rfl rfl rfl Z3 fin1) (dt rfl (ld G3 rfl rfl (((sS 2 rfl hK6002).drop 2).take 1) rfl fin1) (dt rfl (ldA G63 Z63 rfl rfl (sS 2 rfl hK6002) rfl fin1) (dt rfl (clS C69 rfl rfl rfl rfl (fun w H hH le => w69 hH x5988 (RRequest.mono _ _ _ _ (le.at 12 rfl) hr5996) hx6146) fin1) ?_)))))))))
       refine DF.und (α := Option Addr × Nat) (none, 0) (fun q => .slice q.1 r6148.length q.2) (fun (q : Option Addr × Nat) K => Sl (Flat encS) 1 K q.1 q.2 r6148) (fun _ _ _ h x => x.mono (Flat.mono _) h) (by kernel_rfl) rfl (fun a w K hS hA hF => TG.pa hS hA (clK C68 rfl rfl rfl rfl (fun w H hH le => w68 hH (⟨t1089.2.2.1, r_2.out, r_2.within⟩ : Report) ⟨_, _, rfl, (hl1101.mono (Flat.mono _) (le.at 6 rfl))⟩ x5988.from_ r6145 hx6149) (by
         rintro v_ K6151 ⟨ad6152, cap6153, rfl, hl6154⟩
         exact finU (f := fun q => .slice q.1 r6148.length q.2) (G := (fun (q : Option Addr × Nat) K => Sl (Flat encS) 1 K q.1 q.2 r6148)) (_, _) (fun _ _ _ h x => x.mono (Flat.mono _) h) hl6154))) ?_
       rintro ⟨ad6156, cap6157⟩
       refine dt rfl (fb 4 U63 rfl rfl rfl rfl Z24 fin1) (dt rfl (ld G24 rfl rfl ((sS 2 rfl hK6002).drop 4) rfl fin1) ?_)
       refine DF.und (α := Option Addr × Nat) (none, 0) (fun q => .slice q.1 r6158.length q.2) (fun (q : Option Addr × Nat) K => Sl (Flat encS) 1 K q.1 q.2 r6158) (fun _ _ _ h x => x.mono (Flat.mono _) h) (by kernel_rfl) rfl (fun a w K hS hA hF => TG.pa hS hA (clK C70 rfl rfl rfl rfl (fun w H hH le => w70 hH (hl5999.mono (Flat.mono _) (le.at 12 rfl)) hx6159) (by
         rintro v_ K6161 ⟨ad6162, cap6163, rfl, hl6164⟩
         exact finU (f := fun q => .slice q.1 r6158.length q.2) (G := (fun (q : Option Addr × Nat) K => Sl (Flat encS) 1 K q.1 q.2 r6158)) (_, _) (fun _ _ _ h x => x.mono (Flat.mono _) h) hl6164))) ?_
       rintro ⟨ad6166, cap6167⟩
       refine dt rfl (m1 rfl fin1) (DF.und () (fun _ => .agg [.slice ad6156 r6148.length cap6157, .slice ad6166 r6158.length cap6167, .int .i64 x5982].toArray) (fun _ K => Sl (Flat encS) 1 K ad6156 cap6157 r6148 ∧ Sl (Flat encS) 1 K ad6166 cap6167 r6158) (fun _ _ _ h x => ⟨x.1.mono (Flat.mono _) h, x.2.mono (Flat.mono _) h⟩) (by kernel_rfl) rfl (fun a w K hS hA hF => TG.pa hS hA (bu (cs := [.slice ad6156 r6148.length cap6157, .slice ad6166 r6158.length cap6167, .int .i64 x5982]) T4.B98 rfl rfl rfl (finF (f := fun _ => .agg [.slice ad6156 r6148.length cap6157, .slice ad6166 r6158.length cap6167, .int .i64 x5982].toArray) (G := fun _ K => Sl (Flat encS) 1 K ad6156 cap6157 r6148 ∧ Sl (Flat encS) 1 K ad6166 cap6167 r6158) () ⟨(hF.2.1 rfl), (hF.1 rfl)⟩))) fun _ => ?_)
       refine DF.und (α := Option Addr × Nat) (none, 0) (fun q => .slice q.1 1 q.2) (fun (q : Option Addr × Nat) K => Sl (RSegment) 3 K q.1 q.2 ([(⟨r6148, r6158, x5982⟩ : Segment)] : List Segment)) (fun _ _ _ h x => x.mono (RSegment.mono) h) (by kernel_rfl) rfl (fun a w K hS hA hF => TG.pa hS hA (bS (cs := [.slice ad6156 r6148.length cap6157, .slice ad6166 r6158.length cap6167, .int .i64 x5982]) T4.E91 rfl rfl rfl rfl fun q6169 K6170 hq6171 hK6172 => by
         refine TG.pack (fun K => Sl (RSegment) 3 K (some q6169) 1 ([(⟨r6148, r6158, x5982⟩ : Segment)] : List Segment)) (fun H le => Sl.litR (css := [[.slice ad6156 r6148.length cap6157, .slice ad6166 r6158.length cap6167, .int .i64 x5982]]) (l := ([(⟨r6148, r6158, x5982⟩ : Segment)] : List Segment)) ⟨⟨rfl, rfl, ⟨_, _, _, _, rfl, ((hF.1 rfl).1.mono (Flat.mono _) (le.at 1 rfl)), ((hF.1 rfl).2.mono (Flat.mono _) (le.at 1 rfl))⟩⟩, tv⟩ hq6171 (hK6172.mono (le.at 0 rfl)) rfl) fun K6174 hl6173 => ?_
         have := hl6173.len
         refine sk1 ?_
         exact finU (f := fun q => .slice q.1 1 q.2) (G := (fun (q : Option Addr × Nat) K => Sl (RSegment) 3 K q.1 q.2 ([(⟨r6148, r6158, x5982⟩ : Segment)] : List Segment))) (_, _) (fun _ _ _ h x => x.mono (RSegment.mono) h) hl6173)) ?_
       rintro ⟨ad6176, cap6177⟩
       refine DF.nil fun K6178 hF => ?_
       obtain ⟨hu6175, hu6168, hu6165, hu6155, _⟩ := hF
       have := hu6155.len
       have := hu6165.len
       have := hu6175.len
       obtain ⟨hk6179, hr6180⟩ := chk_some hr6160
       have := lenA t6049 ([(⟨r6148, r6158, x5982⟩ : Segment)] : List Segment)
       refine TG.pack (fun K => Sl (RSegment) 3 K ad6176 cap6177 ([(⟨r6148, r6158, x5982⟩ : Segment)] : List Segment) ∧ Rows (RSegment) 3 K css6054 t6049) (fun H le => ⟨hu6175.mono (RSegment.mono) (le.at 0 rfl), hR6056.mono (RSegment.mono) (le.at 1 rfl)⟩) fun K6183 ⟨hm6184, hR6185⟩ => (apR 13 (l := t6049) (m := ([(⟨r6148, r6158, x5982⟩ : Segment)] : List Segment)) T4.E91 rfl rfl rfl rfl rfl rfl hm6184 hR6185 RSegment.one rfl hk6179 fun ad6181 cap6182 css6187 hR6186 => (sto 9 (cs := [.slice ad6181 ((t6049 ++ ([(⟨r6148, r6158, x5982⟩ : Segment)] : List Segment)).length) cap6182]) Z91 rfl rfl rfl rfl rfl rfl rfl (on (rg (ldA G63 Z63 rfl rfl (sS 3 rfl hK6002) rfl (clS C69 rfl rfl rfl rfl (fun w H hH le => w69 hH x5988 (RRequest.mono _ _ _ _ (le.at 13 rfl) hr5996) hx6146) (sto 10 (cs := [.int .i64 r6145]) Z3 rfl rfl rfl rfl rfl rfl rfl (on (rg (adI rfl rfl rfl (by omega) (m1 rfl ?_)))))))))))
       refine on ?_
       cases hr6180
       intro a w hS hA
       exact ⟨_, hz5857, ad6181, cap6182, css6187, K6183, hS.selH [0, 5, 6, 7, 8, 9, 10, 11, 12, 13] rfl, hA.cut ⟨rfl, rfl, rfl, rfl, rfl, rfl, rfl, rfl, rfl, tv⟩, hR6186⟩
     ·have hr6188 := if_n hc5862 hr5856
      refine xt rfl ?_
      cases hr6188
      obtain rfl := Fin.out hz5857
      intro a w hS hA
      exact ⟨ad5851, cap5852, css5853, K5854, hS, hA.cut ⟨rfl, rfl, rfl, tv⟩, hR5855⟩
   ·rintro a w ⟨ad5845, cap5846, css5847, K5848, hS, hA, hR5849⟩
    refine TG.ap ?_ hS hA
    refine sq (rg (m1 rfl (fb 0 U56 rfl rfl rfl rfl Z54 (ld G54 rfl rfl ((sS 7 rfl hK18).take 1) rfl (lnL U54 rfl rfl ?_)))))
    obtain ⟨t6235, hx6236, hr6237⟩ := bd_some hr5844
    refine clI C67 Tryz.func67 rfl Tryz.ntmps67 rfl rfl rfl rfl (fun v w => (∃ (ad6238 : Option Addr) (cap6239 : Nat) (css6240 : List (List Value)) (K6241 : Hp), v = .tuple #[] ∧ St M W H [K6241, K5848, K5236, K1096, K1100, K1103, K1107, K20, K17, K14, H] [(13, Own.rows ad6238 cap6239 98 3 css6240 t6235), (10, cel b5243 3 [.int .i64 e5842.1]), (9, cel b5242 91 [.slice ad6238 t6235.length cap6239]), (8, Own.list ad1091 cap1092 3 1 (encI .i64) l5238), (7, Own.rows ad1093 cap1094 63 5 css1095 t1089.2.1), (2, cel b1090 133 [.slice ad1098 t1089.2.2.1.length cap1099, .int .i64 r_2.out, .int .i64 r_2.within, mp1102, .slice ad1105 t1089.2.2.2.2.1.length cap1106, .slice ad1093 t1089.2.1.length cap1094, .slice ad1091 t1089.1.length cap1092, .slice ad1109 t1089.2.2.2.2.2.length cap1110]), (1, Own.list ad1109 cap1110 31 1 (encI .i64) t1089.2.2.2.2.2)] w ∧ Rows (RSegment) 3 K6241 css6240 t6235)) ?_ ?_
    ·refine sq (rg (ld G3 rfl rfl (sO 10 rfl) rfl (m1 rfl (ltI rfl rfl rfl (on ?_)))))
     obtain ⟨t6283, hx6284, hr6285⟩ := bd_some hx6236
     refine jn (fun a w => ∃ (ad6286 : Option Addr) (cap6287 : Nat) (css6288 : List (List Value)) (K6289 : Hp), St M W H [K6289, K5848, K5236, K1096, K1100, K1103, K1107, K20, K17, K14, H] [(13, Own.rows ad6286 cap6287 98 3 css6288 t6283), (10, cel b5243 3 [.int .i64 e5842.1]), (9, cel b5242 91 [.slice ad6286 t6283.length cap6287]), (8, Own.list ad1091 cap1092 3 1 (encI .i64) l5238), (7, Own.rows ad1093 cap1094 63 5 css1095 t1089.2.1), (2, cel b1090 133 [.slice ad1098 t1089.2.2.1.length cap1099, .int .i64 r_2.out, .int .i64 r_2.within, mp1102, .slice ad1105 t1089.2.2.2.2.1.length cap1106, .slice ad1093 t1089.2.1.length cap1094, .slice ad1091 t1089.1.length cap1092, .slice ad1109 t1089.2.2.2.2.2.length cap1110]), (1, Own.list ad1109 cap1110 31 1 (encI .i64) t1089.2.2.2.2.2)] w ∧ Has [] 26 a [] ∧ Rows (RSegment) 3 K6289 css6288 t6283) ?_ ?_
     ·refine ci rfl (fun hc6291 => ?_) (fun hc6291 => ?_)
      ·have hr6292 := if_p hc6291 hx6284
       obtain ⟨r6293, hx6294, hr6295⟩ := bd_some hr6292
       refine drG 17 mixed (by kernel_rfl) rfl (dt rfl (ld G91 rfl rfl (sO 9 rfl) rfl fin1) (dt rfl (ld G129 rfl rfl (sS 2 rfl hK5237) rfl fin1) (dt rfl (nl rfl rfl fin1) (dt rfl (fb 0 U133 rfl rfl rfl rfl Z56 fin1) (dt rfl (ldA G56 Z56 rfl rfl ((sO 2 rfl).take 3) rfl fin1) (dt rfl (ld G3 rfl rfl (sO 10 rfl) rfl fin1) (dt rfl (m1 rfl fin1) ?_)))))))
       refine DF.und (α := Option Addr × Nat) (none, 0) (fun q => .slice q.1 r6293.length q.2) (fun (q : Option Addr × Nat) K => Sl (Flat encS) 1 K q.1 q.2 r6293) (fun _ _ _ h x => x.mono (Flat.mono _) h) (by kernel_rfl) rfl (fun a w K hS hA hF => TG.pa hS hA (clK C68 rfl rfl rfl rfl (fun w H hH le => w68 hH (⟨t1089.2.2.1, r_2.out, r_2.within⟩ : Report) ⟨_, _, rfl, (hl1101.mono (Flat.mono _) (le.at 4 rfl))⟩ e5842.1 (r_2.words.length : Int) hx6294) (by
         rintro v_ K6296 ⟨ad6297, cap6298, rfl, hl6299⟩
         exact finU (f := fun q => .slice q.1 r6293.length q.2) (G := (fun (q : Option Addr × Nat) K => Sl (Flat encS) 1 K q.1 q.2 r6293)) (_, _) (fun _ _ _ h x => x.mono (Flat.mono _) h) hl6299))) ?_
       rintro ⟨ad6301, cap6302⟩
       refine dt rfl (ld G129 rfl rfl (sS 2 rfl hK5237) rfl fin1) (dt rfl (nl rfl rfl fin1) (dt rfl (fb 0 U133 rfl rfl rfl rfl Z56 fin1) (dt rfl (ldA G56 Z56 rfl rfl ((sO 2 rfl).take 3) rfl fin1) (dt rfl (ld G3 rfl rfl (sO 10 rfl) rfl fin1) (dt rfl (m1 rfl fin1) ?_)))))
       refine DF.und (α := Option Addr × Nat) (none, 0) (fun q => .slice q.1 r6293.length q.2) (fun (q : Option Addr × Nat) K => Sl (Flat encS) 1 K q.1 q.2 r6293) (fun _ _ _ h x => x.mono (Flat.mono _) h) (by kernel_rfl) rfl (fun a w K hS hA hF => TG.pa hS hA (clK C68 rfl rfl rfl rfl (fun w H hH le => w68 hH (⟨t1089.2.2.1, r_2.out, r_2.within⟩ : Report) ⟨_, _, rfl, (hl1101.mono (Flat.mono _) (le.at 4 rfl))⟩ e5842.1 (r_2.words.length : Int) hx6294) (by
         rintro v_ K6303 ⟨ad6304, cap6305, rfl, hl6306⟩
         exact finU (f := fun q => .slice q.1 r6293.length q.2) (G := (fun (q : Option Addr × Nat) K => Sl (Flat encS) 1 K q.1 q.2 r6293)) (_, _) (fun _ _ _ h x => x.mono (Flat.mono _) h) hl6306))) ?_
       rintro ⟨ad6308, cap6309⟩
       refine DF.und () (fun _ => .agg [.slice ad6301 r6293.length cap6302, .slice ad6308 r6293.length cap6309, .int .i64 (-1)].toArray) (fun _ K => Sl (Flat encS) 1 K ad6301 cap6302 r6293 ∧ Sl (Flat encS) 1 K ad6308 cap6309 r6293) (fun _ _ _ h x => ⟨x.1.mono (Flat.mono _) h, x.2.mono (Flat.mono _) h⟩) (by kernel_rfl) rfl (fun a w K hS hA hF => TG.pa hS hA (bu (cs := [.slice ad6301 r6293.length cap6302, .slice ad6308 r6293.length cap6309, .int .i64 (-1)]) T4.B98 rfl rfl rfl (finF (f := fun _ => .agg [.slice ad6301 r6293.length cap6302, .slice ad6308 r6293.length cap6309, .int .i64 (-1)].toArray) (G := fun _ K => Sl (Flat encS) 1 K ad6301 cap6302 r6293 ∧ Sl (Flat encS) 1 K ad6308 cap6309 r6293) () ⟨(hF.2.1 rfl), (hF.1 rfl)⟩))) fun _ => ?_
       refine DF.und (α := Option Addr × Nat) (none, 0) (fun q => .slice q.1 1 q.2) (fun (q : Option Addr × Nat) K => Sl (RSegment) 3 K q.1 q.2 ([(⟨r6293, r6293, (-1)⟩ : Segment)] : List Segment)) (fun _ _ _ h x => x.mono (RSegment.mono) h) (by kernel_rfl) rfl (fun a w K hS hA hF => TG.pa hS hA (bS (cs := [.slice ad6301 r6293.length cap6302, .slice ad6308 r6293.length cap6309, .int .i64 (-1)]) T4.E91 rfl rfl rfl rfl fun q6311 K6312 hq6313 hK6314 => by
         refine TG.pack (fun K => Sl (RSegment) 3 K (some q6311) 1 ([(⟨r6293, r6293, (-1)⟩ : Segment)] : List Segment)) (fun H le => Sl.litR (css := [[.slice ad6301 r6293.length cap6302, .slice ad6308 r6293.length cap6309, .int .i64 (-1)]]) (l := ([(⟨r6293, r6293, (-1)⟩ : Segment)] : List Segment)) ⟨⟨rfl, rfl, ⟨_, _, _, _, rfl, ((hF.1 rfl).1.mono (Flat.mono _) (le.at 1 rfl)), ((hF.1 rfl).2.mono (Flat.mono _) (le.at 1 rfl))⟩⟩, tv⟩ hq6313 (hK6314.mono (le.at 0 rfl)) rfl) fun K6316 hl6315 => ?_
         have := hl6315.len
         refine sk1 ?_
         exact finU (f := fun q => .slice q.1 1 q.2) (G := (fun (q : Option Addr × Nat) K => Sl (RSegment) 3 K q.1 q.2 ([(⟨r6293, r6293, (-1)⟩ : Segment)] : List Segment))) (_, _) (fun _ _ _ h x => x.mono (RSegment.mono) h) hl6315)) ?_
       rintro ⟨ad6318, cap6319⟩
       refine DF.nil fun K6320 hF => ?_
       obtain ⟨hu6317, hu6310, hu6307, hu6300, _⟩ := hF
       have := hu6300.len
       have := hu6307.len
       have := hu6317.len
       obtain ⟨hk6321, hr6322⟩ := chk_some hr6295
       have := lenA e5842.2 ([(⟨r6293, r6293, (-1)⟩ : Segment)] : List Segment)
       refine TG.pack (fun K => Sl (RSegment) 3 K ad6318 cap6319 ([(⟨r6293, r6293, (-1)⟩ : Segment)] : List Segment) ∧ Rows (RSegment) 3 K css5847 e5842.2) (fun H le => ⟨hu6317.mono (RSegment.mono) (le.at 0 rfl), hR5849.mono (RSegment.mono) (le.at 1 rfl)⟩) fun K6325 ⟨hm6326, hR6327⟩ => (apR 13 (l := e5842.2) (m := ([(⟨r6293, r6293, (-1)⟩ : Segment)] : List Segment)) T4.E91 rfl rfl rfl rfl rfl rfl hm6326 hR6327 RSegment.one rfl hk6321 fun ad6323 cap6324 css6329 hR6328 => (sto 9 (cs := [.slice ad6323 ((e5842.2 ++ ([(⟨r6293, r6293, (-1)⟩ : Segment)] : List Segment)).length) cap6324]) Z91 rfl rfl rfl rfl rfl rfl rfl (on ?_)))
       cases hr6322
       intro a w hS hA
       exact ⟨ad6323, cap6324, css6329, K6325, hS.selH [0, 2, 3, 4, 5, 6, 7, 8, 9, 10, 11] rfl, hA.cut tv, hR6328⟩
      ·have hr6330 := if_n hc6291 hx6284
       refine sk ?_
       cases hr6330
       intro a w hS hA
       exact ⟨ad5845, cap5846, css5847, K5848, hS.selH [0, 0, 1, 2, 3, 4, 5, 6, 7, 8, 9] rfl, hA.cut tv, hR5849⟩
     ·rintro a w ⟨ad6286, cap6287, css6288, K6289, hS, hA, hR6290⟩
      refine TG.ap ?_ hS hA
      cases hr6285
      intro a w hS hA
      refine ret0 hA rfl ?_
      exact ⟨_, rfl, ⟨ad6286, cap6287, css6288, K6289, rfl, hS, hR6290⟩⟩
    ·rintro a w v hA (⟨ad6238, cap6239, css6240, K6241, rfl, hS, hR6242⟩)
     refine putK rfl hA hS (on (sq (rg (ld G91 rfl rfl (sO 9 rfl) rfl (a1 rfl (a1 rfl (on (rt_ ?_))))))))
     cases hr6237
     intro a w hS hA
     refine ret2 hA rfl rfl rfl ?_
     exact ⟨⟨_, _, rfl, (hS.rowsOut 13 rfl 0 rfl (RSegment.mono) hR6242)⟩, hS.ext⟩

theorem w46 {M : Prop} {W : World} {H : Hp} (hH : H.le (hp W)) {ad_a_0 : Option Addr} {cap_a_0 : Nat} {a_0 : List Bytes} (h_a_0 : Sl (Flat encS) 1 H ad_a_0 cap_a_0 a_0) {ad_b_1 : Option Addr} {cap_b_1 : Nat} {b_1 : List Bytes} (h_b_1 : Sl (Flat encS) 1 H ad_b_1 cap_b_1 b_1) {r : Bool} (hr : m46 a_0 b_1 = some r) : Calls Tryz.prog 46 [.slice ad_a_0 a_0.length cap_a_0, .slice ad_b_1 b_1.length cap_b_1].toArray W (RetS M W (.bool r)) := by
 have := h_a_0.len
 have := h_b_1.len
 unfold m46 at hr
 refine enterG (M := M) Tryz.func46 rfl Tryz.ntmps46 rfl hH ?_
 refine sq (rg (a1 rfl (on (sq (sq (rg (m1 rfl (lnL U24 rfl rfl (m1 rfl (lnL U24 rfl rfl (neI rfl rfl rfl ?_)))))))))))
 refine on ?_
 refine ci rfl (fun hc4 => ?_) (fun hc4 => ?_)
 ·have hr5 := if_p hc4 hr
  refine sq (rg (a1 rfl (on (rt_ ?_))))
  cases hr5
  intro a w hS hA
  refine ret1 hA rfl rfl ?_
  exact ⟨rfl, hS.ext⟩
 ·have hr6 := if_n hc4 hr
  refine sk (sq (sq (rg (a1 rfl (on ?_)))))
  obtain ⟨e31, hl32, hr33⟩ := bd_some hr6
  refine jn (fun a w => ∃ t34, e31 = .inl t34 ∧ St M W H [H] [] w ∧ Has [] 26 a []) ?_ ?_
  ·refine bk ?_
   refine lp hl32 (fun s35 a w => St M W H [H] [] w ∧ Has [] 26 a [(0, .slice ad_a_0 a_0.length cap_a_0), (1, .slice ad_b_1 b_1.length cap_b_1), (5, .int .i64 (s35 : Int))]) ?_ ?_
   ·exact cu ⟨rfl, rfl, rfl, tv⟩
   ·rintro j s35 y38 hr36 hz37 a w ⟨hS, hA⟩
    refine TG.ap ?_ hS hA
    unfold m46_1 at hr36
    refine sq (sq (rg (m1 rfl (m1 rfl (lnL U24 rfl rfl (ltI rfl rfl rfl (on ?_)))))))
    refine ci rfl (fun hc42 => ?_) (fun hc42 => ?_)
    ·have hr43 := if_p hc42 hr36
     refine sk (sq (bk (sq ?_)))
     obtain ⟨x64, hx65, hr66⟩ := bd_some hr43
     obtain ⟨p67, rfl⟩ := h_a_0.adr hx65
     obtain ⟨cs68, hcs69, hq70, hr71⟩ := h_a_0.at hx65
     obtain rfl := hr71
     obtain ⟨x72, hx73, hr74⟩ := bd_some hr66
     obtain ⟨p75, rfl⟩ := h_b_1.adr hx73
     obtain ⟨cs76, hcs77, hq78, hr79⟩ := h_b_1.at hx73
     obtain rfl := hr79
     refine drG 8 mixed (by kernel_rfl) rfl (dt rfl (m1 rfl fin1) (dt rfl (m1 rfl fin1) (dt rfl (iaP U24 Z9 rfl rfl rfl rfl (lt_of hx65) fin1) (dt rfl (ld G9 rfl rfl (sS 1 rfl hq70) rfl fin1) (dt rfl (m1 rfl fin1) (dt rfl (m1 rfl fin1) (dt rfl (iaP U24 Z9 rfl rfl rfl rfl (lt_of hx73) fin1) (dt rfl (ld G9 rfl rfl (sS 1 rfl hq78) rfl fin1) (DF.nil fun K80 hF => (neS rfl rfl rfl (on ?_)))))))))))
     refine ci rfl (fun hc84 => ?_) (fun hc84 => ?_)
     ·have hr85 := if_p hc84 hr74
      refine sq (rg (a1 rfl (on (rt_ ?_))))
      cases hr85
      obtain rfl := Fin.out hz37
      cases hr33
      intro a w hS hA
      refine ret1 hA rfl rfl ?_
      exact ⟨rfl, hS.ext⟩
     ·have hr86 := if_n hc84 hr74
      refine sk (rg (m1 rfl (adI rfl rfl rfl (by omega) (a1 rfl (on ?_)))))
      cases hr86
      intro a w hS hA
      exact ⟨_, hz37, hS.selH [1] rfl, hA.cut ⟨rfl, rfl, rfl, tv⟩⟩
    ·have hr87 := if_n hc42 hr36
     refine xt rfl ?_
     cases hr87
     obtain rfl := Fin.out hz37
     intro a w hS hA
     exact ⟨_, rfl, hS, hA.cut tv⟩
  ·rintro a w ⟨t34, rfl, hS, hA⟩
   refine TG.ap ?_ hS hA
   refine sq (rg (a1 rfl (on (rt_ ?_))))
   cases hr33
   intro a w hS hA
   refine ret1 hA rfl rfl ?_
   exact ⟨rfl, hS.ext⟩

theorem w13 {M : Prop} {W : World} {H : Hp} (hH : H.le (hp W)) (hg : Gv M H) {cs_l_0 : List Value} (l_0 : Lexicon) (h_l_0 : (RLexicon) H cs_l_0 l_0) {ad_swaps : Option Addr} {cap_swaps : Nat} {swaps : List Swap} (h_swaps : Sl (Flat encSwap) 3 H ad_swaps cap_swaps swaps) {cs_r_2 : List Value} (r_2 : Report) (h_r_2 : (RReport) H cs_r_2 r_2) {ad_requests : Option Addr} {cap_requests : Nat} {requests : List Request} (h_requests : Sl (RRequest) 5 H ad_requests cap_requests requests) (by_4 : Int) (at_5 : Int) {r : Bool} (hr : m13 l_0 swaps r_2 requests by_4 at_5 = some r) : Calls Tryz.prog 13 [.agg cs_l_0.toArray, .slice ad_swaps swaps.length cap_swaps, .agg cs_r_2.toArray, .slice ad_requests requests.length cap_requests, .int .u8 by_4, .int .u8 at_5].toArray W (RetS M W (.bool r)) := by
 have hh_l_0 := h_l_0
 obtain ⟨ad1, cap2, ad4, cap5, ad7, cap8, rfl, hl3, hl6, hl9⟩ := h_l_0
 have := hl3.len
 have := hl6.len
 have := hl9.len
 have := h_swaps.len
 have hh_r_2 := h_r_2
 obtain ⟨ad10, cap11, rfl, hl12⟩ := h_r_2
 have := hl12.len
 have := h_requests.len
 unfold m13 at hr
 refine enterG (M := M) Tryz.func13 rfl Tryz.ntmps13 rfl hH ?_
 refine sq (rg (bI (cs := [.slice ad1 l_0.numbers.length cap2, .slice ad4 l_0.names.length cap5, .slice ad7 l_0.nots.length cap8]) rfl rfl rfl fun q13 K14 hK15 => (bI (cs := [.slice ad10 r_2.words.length cap11, .int .i64 r_2.out, .int .i64 r_2.within]) rfl rfl rfl fun q16 K17 hK18 => (a1 rfl (on (sq (sq ?_)))))))
 obtain ⟨t25, hx26, hr27⟩ := bd_some hr
 refine jn (fun a w => St M W H [K17, K14, H] [] w ∧ Has [] 306 a [(1, .slice ad_swaps swaps.length cap_swaps), (3, .slice ad_requests requests.length cap_requests), (4, .int .u8 by_4), (5, .int .u8 at_5), (6, .pointer (some q13)), (8, .pointer (some q16)), (40, .bool t25)]) ?_ ?_
 ·refine rg (ldA G26 Z26 rfl rfl (sS 1 rfl hK15) rfl (m1 rfl (ldA G68 Z68 rfl rfl (sS 0 rfl hK18) rfl (m1 rfl ?_))))
  obtain ⟨r28, hx29, hr30⟩ := bd_some hx26
  refine clS C30 rfl rfl rfl rfl (fun w H hH le => w30 hH l_0 (RLexicon.mono _ _ _ _ (le.at 2 rfl) hh_l_0) (h_swaps.mono (Flat.mono _) (le.at 2 rfl)) r_2 (RReport.mono _ _ _ _ (le.at 2 rfl) hh_r_2) (h_requests.mono (RRequest.mono) (le.at 2 rfl)) hx29) (nt rfl rfl (m1 rfl ?_))
  rcases Bool.eq_false_or_eq_true (r28) with hb31 | hb31
  ·have hr32 := if_p hb31 hr30
   refine gN rfl rfl (congrArg not (hb31)) (m1 rfl (gN rfl rfl (congrArg not (hb31)) (lnL U69 rfl rfl (gN rfl rfl (congrArg not (hb31)) (eqI rfl rfl rfl (pF rfl rfl (congrArg not (hb31)) rfl (on ?_)))))))
   cases hr32
   exact cu ⟨rfl, rfl, rfl, rfl, rfl, rfl, rfl, tv⟩
  ·have hr33 := if_f hb31 hr30
   refine gF rfl rfl (congrArg not (hb31)) rfl (gF rfl rfl (congrArg not (hb31)) rfl (gF rfl rfl (congrArg not (hb31)) rfl (pT rfl rfl (congrArg not (hb31)) rfl (on ?_))))
   cases hr33
   exact cu ⟨rfl, rfl, rfl, rfl, rfl, rfl, rfl, tv⟩
 ·rintro a w ⟨hS, hA⟩
  refine TG.ap ?_ hS hA
  refine cb rfl (fun hc40 => ?_) (fun hc40 => ?_)
  ·have hr41 := if_p hc40 hr27
   refine sq (rg ?_)
   obtain ⟨r42, hx43, hr44⟩ := bd_some hr41
   refine clS C17 rfl rfl rfl rfl (fun w H hH le => w17 hH (hg.mono (le.at 2 rfl))  hx43) (a1 rfl (on (rt_ ?_)))
   cases hr44
   intro a w hS hA
   refine ret1 hA rfl rfl ?_
   exact ⟨rfl, hS.ext⟩
  ·have hr45 := if_f hc40 hr27
   refine sk (sq (sq (rg (a1 rfl (on ?_)))))
   obtain ⟨e92, hl93, hr94⟩ := bd_some hr45
   refine jn (fun a w => ∃ t95, e92 = .inl t95 ∧ St M W H [K17, K14, H] [] w ∧ Has [] 306 a [(1, .slice ad_swaps swaps.length cap_swaps), (3, .slice ad_requests requests.length cap_requests), (4, .int .u8 by_4), (5, .int .u8 at_5), (6, .pointer (some q13)), (8, .pointer (some q16))]) ?_ ?_
   ·refine bk ?_
    refine lp hl93 (fun s96 a w => St M W H [K17, K14, H] [] w ∧ Has [] 306 a [(1, .slice ad_swaps swaps.length cap_swaps), (3, .slice ad_requests requests.length cap_requests), (4, .int .u8 by_4), (5, .int .u8 at_5), (6, .pointer (some q13)), (8, .pointer (some q16)), (13, .int .i64 (s96 : Int))]) ?_ ?_
    ·exact cu ⟨rfl, rfl, rfl, rfl, rfl, rfl, rfl, tv⟩
    ·rintro j s96 y99 hr97 hz98 a w ⟨hS, hA⟩
     refine TG.ap ?_ hS hA
     unfold m13_1 at hr97
     refine sq (sq (rg (m1 rfl (m1 rfl (lnL U69 rfl rfl (ltI rfl rfl rfl (on ?_)))))))
     refine ci rfl (fun hc103 => ?_) (fun hc103 => ?_)
     ·have hr104 := if_p hc103 hr97
      refine sk (sq (bk (sq (rg (a1 rfl (on ?_))))))
      obtain ⟨e188, hl189, hr190⟩ := bd_some hr104
      refine jn (fun a w => ∃ t191, e188 = .inl t191 ∧ St M W H [K17, K14, H] [] w ∧ Has [] 306 a [(1, .slice ad_swaps swaps.length cap_swaps), (3, .slice ad_requests requests.length cap_requests), (4, .int .u8 by_4), (5, .int .u8 at_5), (6, .pointer (some q13)), (8, .pointer (some q16)), (13, .int .i64 (s96 : Int))]) ?_ ?_
      ·refine bk ?_
       refine lp hl189 (fun s192 a w => St M W H [K17, K14, H] [] w ∧ Has [] 306 a [(1, .slice ad_swaps swaps.length cap_swaps), (3, .slice ad_requests requests.length cap_requests), (4, .int .u8 by_4), (5, .int .u8 at_5), (6, .pointer (some q13)), (8, .pointer (some q16)), (13, .int .i64 (s96 : Int)), (14, .int .i64 (s192 : Int))]) ?_ ?_
       ·exact cu ⟨rfl, rfl, rfl, rfl, rfl, rfl, rfl, rfl, tv⟩
       ·rintro j s192 y195 hr193 hz194 a w ⟨hS, hA⟩
        refine TG.ap ?_ hS hA
        unfold m13_2 at hr193
        refine sq (sq (rg (m1 rfl (m1 rfl (ltI rfl rfl rfl (on ?_))))))
        refine ci rfl (fun hc199 => ?_) (fun hc199 => ?_)
        ·have hr200 := if_p hc199 hr193
         refine sk (sq (bk (sq ?_)))
         obtain ⟨t264, hx265, hr266⟩ := bd_some hr200
         refine jn (fun a w => St M W H [K17, K14, H] [] w ∧ Has [] 306 a [(1, .slice ad_swaps swaps.length cap_swaps), (3, .slice ad_requests requests.length cap_requests), (4, .int .u8 by_4), (5, .int .u8 at_5), (6, .pointer (some q13)), (8, .pointer (some q16)), (13, .int .i64 (s96 : Int)), (14, .int .i64 (s192 : Int)), (76, .bool t264)]) ?_ ?_
         ·obtain ⟨x267, hx268, hr269⟩ := bd_some hx265
          obtain ⟨p270, rfl⟩ := h_requests.adr hx268
          obtain ⟨cs271, hcs272, hq273, hr274⟩ := h_requests.at hx268
          have hr275 := hr274
          obtain ⟨ad276, cap277, rfl, hl278⟩ := hr274
          have := hl278.len
          obtain ⟨x279, hx280, hr281⟩ := bd_some hr269
          obtain ⟨cs282, hcs283, hq284, hr285⟩ := h_requests.at hx280
          have hr286 := hr285
          obtain ⟨ad287, cap288, rfl, hl289⟩ := hr285
          have := hl289.len
          by_cases hb290 : x267.minute = x279.minute
          ·have hr291 := if_p hb290 hr281
           refine drG 22 mixed (by kernel_rfl) rfl (dt rfl (m1 rfl fin1) (dt rfl (m1 rfl fin1) (dt rfl (iaP U69 Z73 rfl rfl rfl rfl (lt_of hx268) fin1) (dt rfl (fb 1 U73 rfl rfl rfl rfl Z3 fin1) (dt rfl (ld G3 rfl rfl (((sS 3 rfl hq273).drop 1).take 1) rfl fin1) (dt rfl (m1 rfl fin1) (dt rfl (m1 rfl fin1) (dt rfl (iaP U69 Z73 rfl rfl rfl rfl (lt_of hx280) fin1) (dt rfl (fb 1 U73 rfl rfl rfl rfl Z3 fin1) (dt rfl (ld G3 rfl rfl (((sS 3 rfl hq284).drop 1).take 1) rfl fin1) (dt rfl (eqI rfl rfl rfl fin1) ?_)))))))))))
           refine dt rfl (m1 rfl fin1) (dt rfl (gt hb290 rfl (m1 rfl fin1)) (dt rfl (gt hb290 rfl (m1 rfl fin1)) (dt rfl (gt hb290 rfl (iaP U69 Z73 rfl rfl rfl rfl (lt_of hx268) fin1)) (dt rfl (gt hb290 rfl (fb 0 U73 rfl rfl rfl rfl Z3 fin1)) (dt rfl (gt hb290 rfl (ld G3 rfl rfl ((sS 3 rfl hq273).take 1) rfl fin1)) (dt rfl (gt hb290 rfl (m1 rfl fin1)) (dt rfl (gt hb290 rfl (m1 rfl fin1)) (dt rfl (gt hb290 rfl (iaP U69 Z73 rfl rfl rfl rfl (lt_of hx280) fin1)) (dt rfl (gt hb290 rfl (fb 0 U73 rfl rfl rfl rfl Z3 fin1)) (dt rfl (gt hb290 rfl (ld G3 rfl rfl ((sS 3 rfl hq284).take 1) rfl fin1)) (DF.nil fun K292 hF => ?_)))))))))))
           refine gt hb290 rfl (eqI rfl rfl rfl (pt hb290 rfl rfl (on ?_)))
           cases hr291
           intro a w hS hA
           exact ⟨hS.selH [1, 2, 3] rfl, hA.cut ⟨rfl, rfl, rfl, rfl, rfl, rfl, rfl, rfl, rfl, tv⟩⟩
          ·have hr293 := if_n hb290 hr281
           refine drG 22 mixed (by kernel_rfl) rfl (dt rfl (m1 rfl fin1) (dt rfl (m1 rfl fin1) (dt rfl (iaP U69 Z73 rfl rfl rfl rfl (lt_of hx268) fin1) (dt rfl (fb 1 U73 rfl rfl rfl rfl Z3 fin1) (dt rfl (ld G3 rfl rfl (((sS 3 rfl hq273).drop 1).take 1) rfl fin1) (dt rfl (m1 rfl fin1) (dt rfl (m1 rfl fin1) (dt rfl (iaP U69 Z73 rfl rfl rfl rfl (lt_of hx280) fin1) (dt rfl (fb 1 U73 rfl rfl rfl rfl Z3 fin1) (dt rfl (ld G3 rfl rfl (((sS 3 rfl hq284).drop 1).take 1) rfl fin1) (dt rfl (eqI rfl rfl rfl fin1) ?_)))))))))))
           refine dt rfl (m1 rfl fin1) (dt rfl (gf hb290 rfl fin1) (dt rfl (gf hb290 rfl fin1) (dt rfl (gf hb290 rfl fin1) (dt rfl (gf hb290 rfl fin1) (dt rfl (gf hb290 rfl fin1) (dt rfl (gf hb290 rfl fin1) (dt rfl (gf hb290 rfl fin1) (dt rfl (gf hb290 rfl fin1) (dt rfl (gf hb290 rfl fin1) (dt rfl (gf hb290 rfl fin1) (DF.nil fun K294 hF => ?_)))))))))))
           refine gf hb290 rfl (pf hb290 rfl rfl (on ?_))
           cases hr293
           intro a w hS hA
           exact ⟨hS.selH [1, 2, 3] rfl, hA.cut ⟨rfl, rfl, rfl, rfl, rfl, rfl, rfl, rfl, rfl, tv⟩⟩
         ·rintro a w ⟨hS, hA⟩
          refine TG.ap ?_ hS hA
          refine cb rfl (fun hc301 => ?_) (fun hc301 => ?_)
          ·have hr302 := if_p hc301 hr266
           refine sq (rg ?_)
           obtain ⟨r303, hx304, hr305⟩ := bd_some hr302
           refine clS C17 rfl rfl rfl rfl (fun w H hH le => w17 hH (hg.mono (le.at 2 rfl))  hx304) (a1 rfl (on (rt_ ?_)))
           cases hr305
           obtain rfl := Fin.out hz194
           cases hr190
           obtain rfl := Fin.out hz98
           cases hr94
           intro a w hS hA
           refine ret1 hA rfl rfl ?_
           exact ⟨rfl, hS.ext⟩
          ·have hr306 := if_f hc301 hr266
           refine sk (rg (m1 rfl ?_))
           obtain ⟨hk307, hr308⟩ := chk_some hr306
           refine adI rfl rfl rfl hk307 (a1 rfl (on ?_))
           cases hr308
           intro a w hS hA
           exact ⟨_, hz194, hS, hA.cut ⟨rfl, rfl, rfl, rfl, rfl, rfl, rfl, rfl, tv⟩⟩
        ·have hr309 := if_n hc199 hr193
         refine xt rfl ?_
         cases hr309
         obtain rfl := Fin.out hz194
         intro a w hS hA
         exact ⟨_, rfl, hS, hA.cut ⟨rfl, rfl, rfl, rfl, rfl, rfl, rfl, tv⟩⟩
      ·rintro a w ⟨t191, rfl, hS, hA⟩
       refine TG.ap ?_ hS hA
       refine rg (m1 rfl (adI rfl rfl rfl (by omega) (a1 rfl (on ?_))))
       cases hr190
       intro a w hS hA
       exact ⟨_, hz98, hS, hA.cut ⟨rfl, rfl, rfl, rfl, rfl, rfl, rfl, tv⟩⟩
     ·have hr310 := if_n hc103 hr97
      refine xt rfl ?_
      cases hr310
      obtain rfl := Fin.out hz98
      intro a w hS hA
      exact ⟨_, rfl, hS, hA.cut ⟨rfl, rfl, rfl, rfl, rfl, rfl, tv⟩⟩
   ·rintro a w ⟨t95, rfl, hS, hA⟩
    refine TG.ap ?_ hS hA
    refine sq (rg (m1 rfl (lnL U69 rfl rfl (a1 rfl (on (sq (rg (a1 rfl (on (sq (sq ?_)))))))))))
    refine rg (a1 rfl (on (TG.nilRow 2 3 1 (TG.as 2 (z := Own.list none 0 3 1 (encI .i64) ([] : List Int)) rfl rfl ?_))))
    obtain ⟨e362, hl363, hr364⟩ := bd_some hr94
    refine jn (fun a w => ∃ (ad365 : Option Addr) (cap366 : Nat), St M W H [K17, K14, H] [(2, Own.list ad365 cap366 3 1 (encI .i64) e362)] w ∧ Has [] 306 a [(1, .slice ad_swaps swaps.length cap_swaps), (3, .slice ad_requests requests.length cap_requests), (5, .int .u8 at_5), (6, .pointer (some q13)), (8, .pointer (some q16)), (15, .int .i64 (requests.length : Int)), (16, .slice ad365 e362.length cap366)]) ?_ ?_
    ·refine bk ?_
     refine lp hl363 (fun s367 a w => ∃ (ad368 : Option Addr) (cap369 : Nat), St M W H [K17, K14, H] [(2, Own.list ad368 cap369 3 1 (encI .i64) s367.2)] w ∧ Has [] 306 a [(1, .slice ad_swaps swaps.length cap_swaps), (3, .slice ad_requests requests.length cap_requests), (4, .int .u8 by_4), (5, .int .u8 at_5), (6, .pointer (some q13)), (8, .pointer (some q16)), (15, .int .i64 (requests.length : Int)), (16, .slice ad368 s367.2.length cap369), (17, .int .i64 (s367.1 : Int))]) ?_ ?_
     ·intro a w hS hA
      exact ⟨none, 0, hS, hA.cut ⟨rfl, rfl, rfl, rfl, rfl, rfl, rfl, rfl, rfl, tv⟩⟩
     ·rintro j s367 y372 hr370 hz371 a w ⟨ad368, cap369, hS, hA⟩
      refine TG.ap ?_ hS hA
      unfold m13_3 at hr370
      refine sq (sq (rg (m1 rfl (m1 rfl (ltI rfl rfl rfl (on ?_))))))
      refine ci rfl (fun hc376 => ?_) (fun hc376 => ?_)
      ·have hr377 := if_p hc376 hr370
       refine sk (sq (bk (rg (m1 rfl (m1 rfl (m1 rfl ?_))))))
       obtain ⟨hk389, hr390⟩ := chk_some hr377
       refine cvI U5 U3 rfl rfl (wr_i64 hk389) ?_
       obtain ⟨hk391, hr392⟩ := chk_some hr390
       refine adI rfl rfl rfl hk391 (m1 rfl ?_)
       obtain ⟨hk393, hr394⟩ := chk_some hr392
       have : 0 ≤ (((s367.1 : Int) + by_4) % (requests.length : Int)) ∧ (((s367.1 : Int) + by_4) % (requests.length : Int)) < (requests.length : Int) := have h := (hk393 : 0 ≤ ((s367.1 : Int) + by_4) ∧ 0 < (requests.length : Int)); ⟨Int.emod_nonneg _ (by omega), Int.emod_lt_of_pos _ h.2⟩
       refine rmI rfl rfl rfl hk393 ?_
       obtain ⟨hk395, hr396⟩ := chk_some hr394
       have := lenA s367.2 [(((s367.1 : Int) + by_4) % (requests.length : Int))]
       refine ap1 2 (encI .i64) (l := s367.2) (((s367.1 : Int) + by_4) % (requests.length : Int)) T4.E86 rfl rfl rfl rfl rfl rfl rfl rfl rfl rfl rfl rfl hk395 fun ad397 cap398 u399 => (a1 rfl (on (rg (m1 rfl (adI rfl rfl rfl (by omega) (a1 rfl (on ?_)))))))
       cases hr396
       intro a w hS hA
       exact ⟨_, hz371, ad397, cap398, hS, hA.cut ⟨rfl, rfl, rfl, rfl, rfl, rfl, rfl, rfl, rfl, tv⟩⟩
      ·have hr400 := if_n hc376 hr370
       refine xt rfl ?_
       cases hr400
       obtain rfl := Fin.out hz371
       intro a w hS hA
       exact ⟨ad368, cap369, hS, hA.cut ⟨rfl, rfl, rfl, rfl, rfl, rfl, rfl, tv⟩⟩
    ·rintro a w ⟨ad365, cap366, hS, hA⟩
     refine TG.ap ?_ hS hA
     refine sq ?_
     obtain ⟨hk401, hr402⟩ := chk_some hr364
     obtain ⟨hk403, hr404⟩ := chk_some hr402
     have : 0 ≤ (at_5 % (requests.length : Int)) ∧ (at_5 % (requests.length : Int)) < (requests.length : Int) := have h := (hk403 : 0 ≤ at_5 ∧ 0 < (requests.length : Int)); ⟨Int.emod_nonneg _ (by omega), Int.emod_lt_of_pos _ h.2⟩
     obtain ⟨x405, hx406, hr407⟩ := bd_some hr404
     refine TG.addr 2 rfl (lt_of0 hx406) fun b408 h => ?_; subst h
     obtain ⟨x409, hx410, hr411⟩ := bd_some hr407
     refine drG3 16 [] [(1, 95, .slice (some ⟨b408, 0, none⟩) e362.length cap366), (2, 96, .int .u8 at_5), (3, 97, .int .i64 at_5), (4, 98, .int .i64 (requests.length : Int)), (5, 99, .int .i64 (at_5 % (requests.length : Int)))] mixed (fun _ _ _ _ _ h => h) (by kernel_rfl) (by kernel_rfl) (by kernel_rfl) rfl (by kernel_rfl) (.cons rfl rfl rfl (fun _ => rfl) (by kernel_rfl) (by kernel_rfl) (fun _ _ => rfl) (mvY rfl) (.cons rfl rfl rfl (fun _ => rfl) (by kernel_rfl) (by kernel_rfl) (fun _ _ => rfl) (mvY rfl) (.cons rfl rfl rfl (fun _ => rfl) (by kernel_rfl) (by kernel_rfl) (fun _ _ => rfl) (cvIY U5 U3 rfl (wr_i64 hk401)) (.cons rfl rfl rfl (fun _ => rfl) (by kernel_rfl) (by kernel_rfl) (fun _ _ => rfl) (mvY rfl) (.cons rfl rfl rfl (fun _ => rfl) (by kernel_rfl) (by kernel_rfl) (fun _ _ => rfl) (rmIY rfl rfl hk403) (.nil)))))) (dc rfl (by kernel_rfl) tv rfl rfl (m1 rfl fin1) (DC.pre (.head _) rfl (DC.pre (.tail _ (.head _)) rfl (DC.pre (.tail _ (.tail _ (.head _))) rfl (DC.pre (.tail _ (.tail _ (.tail _ (.head _)))) rfl (DC.pre (.tail _ (.tail _ (.tail _ (.tail _ (.head _))))) rfl (dc rfl (by kernel_rfl) tv rfl rfl (m1 rfl fin1) (dc rfl (by kernel_rfl) tv rfl rfl (m1 rfl fin1) (dc rfl (by kernel_rfl) tv rfl rfl (cvI U5 U3 rfl rfl (wr_i64 hk401) fin1) (dc rfl (by kernel_rfl) tv rfl rfl (m1 rfl fin1) (dc rfl (by kernel_rfl) tv rfl rfl (rmI rfl rfl rfl hk403 fin1) ?_)))))))))))
     refine dc rfl (by kernel_rfl) tv rfl rfl (iaP U86 Z3 rfl rfl rfl (by omega) (lt_of hx406) fin1) (dc rfl (by kernel_rfl) tv rfl rfl (ld G3 rfl rfl (sE 2 rfl (fun _ => rfl) hx406) rfl fin1) (dc rfl (by kernel_rfl) tv rfl rfl (m1 rfl fin1) (dc rfl (by kernel_rfl) tv rfl rfl (iaP U86 Z3 rfl rfl rfl rfl (lt_of hx410) fin1) (dc rfl (by kernel_rfl) tv rfl rfl (ld G3 rfl rfl (sE 2 rfl (fun _ => rfl) hx410) rfl fin1) (DC.nil fun K412 hF => (iaP U86 Z3 rfl rfl rfl rfl (lt_of hx410) ?_))))))
     have hln413 : (e362.set 0 x405).length = e362.length := (lenS _ _ _)
     refine stE 2 x405 (q := ⟨b408, 0, none⟩) (j := 0) (size := 1) (cs := [.int .i64 x405]) (off := 0) Z3 rfl rfl rfl (fun _ => rfl) hx410 rfl rfl rfl rfl rfl ?_
     obtain ⟨x414, hx415, hr416⟩ := bd_some hr411
     refine iaP U86 Z3 rfl rfl rfl (by omega) (Nat.lt_of_lt_of_eq (lt_of hx415) hln413) ?_
     have hln417 : ((e362.set 0 x405).set ((at_5 % (requests.length : Int)).toNat) x409).length = e362.length := (lenS _ _ _).trans hln413
     refine stE 2 x409 (q := ⟨b408, 0, none⟩) (j := (at_5 % (requests.length : Int)).toNat) (size := 1) (cs := [.int .i64 x409]) (off := 0) Z3 rfl rfl rfl (fun _ => rfl) hx415 rfl rfl rfl rfl rfl (on (sq (rg (a1 rfl (on (sq (sq (rg (a1 rfl (on (TG.nilRow 4 73 5 ?_)))))))))))
     have hR447 : Rows (RRequest) 5 H [] ([] : List Request) := tv
     refine TG.as 4 (z := Own.rows none 0 73 5 [] ([] : List Request)) rfl rfl ?_
     obtain ⟨e519, hl520, hr521⟩ := bd_some hr416
     refine jn (fun a w => ∃ (ad522 : Option Addr) (cap523 : Nat) (css524 : List (List Value)) (K525 : Hp), St M W H [K525, K412, K17, K14, H] [(4, Own.rows ad522 cap523 73 5 css524 e519), (2, Own.list (some ⟨b408, 0, none⟩) cap366 3 1 (encI .i64) ((e362.set 0 x405).set ((at_5 % (requests.length : Int)).toNat) x409))] w ∧ Has [] 306 a [(1, .slice ad_swaps swaps.length cap_swaps), (3, .slice ad_requests requests.length cap_requests), (6, .pointer (some q13)), (8, .pointer (some q16)), (15, .int .i64 (requests.length : Int)), (16, .slice (some ⟨b408, 0, none⟩) e362.length cap366), (18, .slice ad522 e519.length cap523)] ∧ Rows (RRequest) 5 K525 css524 e519) ?_ ?_
     ·refine bk ?_
      refine lp hl520 (fun s527 a w => ∃ (ad528 : Option Addr) (cap529 : Nat) (css530 : List (List Value)) (K531 : Hp), St M W H [K531, K412, K17, K14, H] [(4, Own.rows ad528 cap529 73 5 css530 s527.2), (2, Own.list (some ⟨b408, 0, none⟩) cap366 3 1 (encI .i64) ((e362.set 0 x405).set ((at_5 % (requests.length : Int)).toNat) x409))] w ∧ Has [] 306 a [(1, .slice ad_swaps swaps.length cap_swaps), (3, .slice ad_requests requests.length cap_requests), (6, .pointer (some q13)), (8, .pointer (some q16)), (15, .int .i64 (requests.length : Int)), (16, .slice (some ⟨b408, 0, none⟩) e362.length cap366), (18, .slice ad528 s527.2.length cap529), (19, .int .i64 (s527.1 : Int))] ∧ Rows (RRequest) 5 K531 css530 s527.2) ?_ ?_
      ·intro a w hS hA
       exact ⟨none, 0, [], H, hS.selH [3, 0, 1, 2, 3] rfl, hA.cut ⟨rfl, rfl, rfl, rfl, rfl, rfl, rfl, rfl, tv⟩, hR447⟩
      ·rintro j s527 y535 hr533 hz534 a w ⟨ad528, cap529, css530, K531, hS, hA, hR532⟩
       refine TG.ap ?_ hS hA
       unfold m13_4 at hr533
       refine sq (sq (rg (m1 rfl (m1 rfl (ltI rfl rfl rfl (on ?_))))))
       refine ci rfl (fun hc539 => ?_) (fun hc539 => ?_)
       ·have hr540 := if_p hc539 hr533
        refine sk (sq (bk (rg (m1 rfl (m1 rfl (m1 rfl (m1 rfl ?_)))))))
        obtain ⟨x565, hx566, hr567⟩ := bd_some hr540
        refine iaP U86 Z3 rfl rfl rfl rfl (Nat.lt_of_lt_of_eq (lt_of hx566) hln417) (ld G3 rfl rfl (sE 2 rfl (fun _ => rfl) hx566) rfl ?_)
        obtain ⟨hk568, hr569⟩ := chk_some hr567
        obtain ⟨x570, hx571, hr572⟩ := bd_some hr569
        obtain ⟨p573, rfl⟩ := h_requests.adr hx571
        obtain ⟨cs574, hcs575, hq576, hr577⟩ := h_requests.at hx571
        have hr578 := hr577
        obtain ⟨ad579, cap580, rfl, hl581⟩ := hr577
        have := hl581.len
        refine iaP U69 Z73 rfl rfl rfl (by omega) (lt_of hx571) (ldA G73 Z73 rfl rfl (sS 4 rfl hq576) rfl ?_)
        obtain ⟨hk582, hr583⟩ := chk_some hr572
        have := lenA s527.2 [x570]
        refine TG.pack (fun K => Rows (RRequest) 5 K (css530 ++ [[.int .i64 x570.by_, .int .i64 x570.minute, .int .i64 x570.from_, .int .i64 x570.cut, .slice ad579 x570.put_.length cap580]]) (s527.2 ++ [x570])) (fun H le => (hR532.mono (RRequest.mono) (le.at 0 rfl)).snoc rfl rfl (RRequest.mono _ _ _ _ (le.at 4 rfl) hr578)) fun K587 hR588 => (ap1R 4 [.int .i64 x570.by_, .int .i64 x570.minute, .int .i64 x570.from_, .int .i64 x570.cut, .slice ad579 x570.put_.length cap580] x570 (l := s527.2) (css := css530) T4.E69 rfl rfl rfl rfl rfl rfl rfl rfl rfl rfl rfl rfl hk582 fun ad584 cap585 u586 => (a1 rfl (on (rg (m1 rfl (adI rfl rfl rfl (by omega) (a1 rfl (on ?_))))))))
        cases hr583
        intro a w hS hA
        exact ⟨_, hz534, ad584, cap585, (css530 ++ [[Value.int .i64 x570.by_, Value.int .i64 x570.minute, Value.int .i64 x570.from_, Value.int .i64 x570.cut, Value.slice ad579 x570.put_.length cap580]]), K587, hS.selH [0, 2, 3, 4, 5] rfl, hA.cut ⟨rfl, rfl, rfl, rfl, rfl, rfl, rfl, rfl, tv⟩, hR588⟩
       ·have hr589 := if_n hc539 hr533
        refine xt rfl ?_
        cases hr589
        obtain rfl := Fin.out hz534
        intro a w hS hA
        exact ⟨ad528, cap529, css530, K531, hS, hA.cut ⟨rfl, rfl, rfl, rfl, rfl, rfl, rfl, tv⟩, hR532⟩
     ·rintro a w ⟨ad522, cap523, css524, K525, hS, hA, hR526⟩
      refine TG.ap ?_ hS hA
      refine sq ?_
      obtain ⟨r590, hx591, hr592⟩ := bd_some hr521
      obtain ⟨r598, hx599, hr600⟩ := bd_some hr592
      obtain ⟨r608, hx609, hr610⟩ := bd_some hr600
      obtain ⟨r616, hx617, hr618⟩ := bd_some hr610
      obtain ⟨r626, hx627, hr628⟩ := bd_some hr618
      refine drG 13 mixed (by kernel_rfl) rfl (dt rfl (ldA G26 Z26 rfl rfl (sS 4 rfl hK15) rfl fin1) ?_)
      refine DF.und (α := List Value) [] (fun q => .agg q.toArray) (fun (q : List Value) K => (RLexicon) K q r590) (fun _ _ _ h x => RLexicon.mono _ _ _ _ h x) (by kernel_rfl) rfl (fun a w K hS hA hF => TG.pa hS hA (clK C19 rfl rfl rfl rfl (fun w H hH le => w19 hH l_0 (RLexicon.mono _ _ _ _ (le.at 5 rfl) hh_l_0) hx591) (by
        rintro v_ K593 ⟨cs594, rfl, hr595⟩
        exact finU (f := fun q => .agg q.toArray) (G := (fun (q : List Value) K => (RLexicon) K q r590)) _ (fun _ _ _ h x => RLexicon.mono _ _ _ _ h x) hr595))) fun cs597 => ?_
      refine dt rfl (m1 rfl fin1) ?_
      refine DF.und (α := Option Addr × Nat) (none, 0) (fun q => .slice q.1 r598.length q.2) (fun (q : Option Addr × Nat) K => Sl (Flat encSwap) 3 K q.1 q.2 r598) (fun _ _ _ h x => x.mono (Flat.mono _) h) (by kernel_rfl) rfl (fun a w K hS hA hF => TG.pa hS hA (clK C20 rfl rfl rfl rfl (fun w H hH le => w20 hH (h_swaps.mono (Flat.mono _) (le.at 5 rfl)) hx599) (by
        rintro v_ K601 ⟨ad602, cap603, rfl, hl604⟩
        exact finU (f := fun q => .slice q.1 r598.length q.2) (G := (fun (q : Option Addr × Nat) K => Sl (Flat encSwap) 3 K q.1 q.2 r598)) (_, _) (fun _ _ _ h x => x.mono (Flat.mono _) h) hl604))) ?_
      rintro ⟨ad606, cap607⟩
      refine dt rfl (ldA G68 Z68 rfl rfl (sS 3 rfl hK18) rfl fin1) ?_
      refine DF.und (α := List Value) [] (fun q => .agg q.toArray) (fun (q : List Value) K => (RReport) K q r608) (fun _ _ _ h x => RReport.mono _ _ _ _ h x) (by kernel_rfl) rfl (fun a w K hS hA hF => TG.pa hS hA (clK C31 rfl rfl rfl rfl (fun w H hH le => w31 hH r_2 (RReport.mono _ _ _ _ (le.at 5 rfl) hh_r_2) hx609) (by
        rintro v_ K611 ⟨cs612, rfl, hr613⟩
        exact finU (f := fun q => .agg q.toArray) (G := (fun (q : List Value) K => (RReport) K q r608)) _ (fun _ _ _ h x => RReport.mono _ _ _ _ h x) hr613))) fun cs615 => ?_
      refine dt rfl (m1 rfl fin1) ?_
      refine DF.und (α := Option Addr × Nat) (none, 0) (fun q => .slice q.1 r616.length q.2) (fun (q : Option Addr × Nat) K => Sl (RRequest) 5 K q.1 q.2 r616) (fun _ _ _ h x => x.mono (RRequest.mono) h) (by kernel_rfl) rfl (fun a w K hS hA hF => TG.pa hS hA (clK C32 rfl rfl rfl rfl (fun w H hH le => w32 hH (h_requests.mono (RRequest.mono) (le.at 5 rfl)) hx617) (by
        rintro v_ K619 ⟨ad620, cap621, rfl, hl622⟩
        exact finU (f := fun q => .slice q.1 r616.length q.2) (G := (fun (q : Option Addr × Nat) K => Sl (RRequest) 5 K q.1 q.2 r616)) (_, _) (fun _ _ _ h x => x.mono (RRequest.mono) h) hl622))) ?_
      rintro ⟨ad624, cap625⟩
      refine DF.und (α := Option Addr × Nat) (none, 0) (fun q => .tuple [.slice q.1 r626.1.length q.2, .int .i64 r626.2].toArray) (fun (q : Option Addr × Nat) K => Sl (Flat (encI .i64)) 1 K q.1 q.2 r626.1) (fun _ _ _ h x => x.mono (Flat.mono _) h) (by kernel_rfl) rfl (fun a w K hS hA hF => TG.pa hS hA (clK C29 rfl rfl rfl rfl (fun w H hH le => w29 hH (hg.mono (le.at 5 rfl)) r590 (RLexicon.mono _ _ _ _ (le.at 0 rfl) (hF.2.2.2.1 rfl)) ((hF.2.2.1 rfl).mono (Flat.mono _) (le.at 0 rfl)) r608 (RReport.mono _ _ _ _ (le.at 0 rfl) (hF.2.1 rfl)) ((hF.1 rfl).mono (RRequest.mono) (le.at 0 rfl)) hx627) (by
        rintro v_ K629 ⟨ad630, cap631, rfl, hl632⟩
        exact finU (f := fun q => .tuple [.slice q.1 r626.1.length q.2, .int .i64 r626.2].toArray) (G := (fun (q : Option Addr × Nat) K => Sl (Flat (encI .i64)) 1 K q.1 q.2 r626.1)) (ad630, cap631) (fun _ _ _ h x => x.mono (Flat.mono _) h) hl632))) ?_
      rintro ⟨ad634, cap635⟩
      refine DF.und () (fun _ => .tuple [.slice ad634 r626.1.length cap635, .int .i64 r626.2].toArray) (fun _ K => Sl (Flat (encI .i64)) 1 K ad634 cap635 r626.1) (fun _ _ _ h x => x.mono (Flat.mono _) h) (by kernel_rfl) rfl (fun a w K hS hA hF => TG.pa hS hA (m1 rfl (finF (f := fun _ => .tuple [.slice ad634 r626.1.length cap635, .int .i64 r626.2].toArray) (G := fun _ K => Sl (Flat (encI .i64)) 1 K ad634 cap635 r626.1) () (hF.1 rfl)))) fun _ => (DF.und () (fun _ => .slice ad634 r626.1.length cap635) (fun _ K => Sl (Flat (encI .i64)) 1 K ad634 cap635 r626.1) (fun _ _ _ h x => x.mono (Flat.mono _) h) (by kernel_rfl) rfl (fun a w K hS hA hF => TG.pa hS hA (ex rfl rfl rfl (finF (f := fun _ => .slice ad634 r626.1.length cap635) (G := fun _ K => Sl (Flat (encI .i64)) 1 K ad634 cap635 r626.1) () (hF.1 rfl)))) fun _ => (dt rfl (ex rfl rfl rfl fin1) (DF.und () (fun _ => .slice ad634 r626.1.length cap635) (fun _ K => Sl (Flat (encI .i64)) 1 K ad634 cap635 r626.1) (fun _ _ _ h x => x.mono (Flat.mono _) h) (by kernel_rfl) rfl (fun a w K hS hA hF => TG.pa hS hA (a1 rfl (finF (f := fun _ => .slice ad634 r626.1.length cap635) (G := fun _ K => Sl (Flat (encI .i64)) 1 K ad634 cap635 r626.1) () (hF.1 rfl)))) fun _ => (DF.nil fun K639 hF => ?_))))
      obtain ⟨hu638, hu637, hu636, hu633, hu623, hu614, hu605, hu596, _⟩ := hF
      have hr640 := hu596
      obtain ⟨ad641, cap642, ad644, cap645, ad647, cap648, rfl, hl643, hl646, hl649⟩ := hu596
      have := hl643.len
      have := hl646.len
      have := hl649.len
      have := hu605.len
      have hr650 := hu614
      obtain ⟨ad651, cap652, rfl, hl653⟩ := hu614
      have := hl653.len
      have := hu623.len
      have := hu633.len
      refine a1 rfl (on (sq (TG.stillR 4 rfl 1 rfl (RRequest.mono) hR526 fun K671 hl672 => ?_)))
      have := hl672.len
      obtain ⟨r690, hx691, hr692⟩ := bd_some hr628
      obtain ⟨r700, hx701, hr702⟩ := bd_some hr692
      refine drG 13 mixed (by kernel_rfl) rfl (dt rfl (ldA G26 Z26 rfl rfl (sS 6 rfl hK15) rfl fin1) ?_)
      refine DF.und (α := List Value) [] (fun q => .agg q.toArray) (fun (q : List Value) K => (RLexicon) K q r590) (fun _ _ _ h x => RLexicon.mono _ _ _ _ h x) (by kernel_rfl) rfl (fun a w K hS hA hF => TG.pa hS hA (clK C19 rfl rfl rfl rfl (fun w H hH le => w19 hH l_0 (RLexicon.mono _ _ _ _ (le.at 7 rfl) hh_l_0) hx591) (by
        rintro v_ K673 ⟨cs674, rfl, hr675⟩
        exact finU (f := fun q => .agg q.toArray) (G := (fun (q : List Value) K => (RLexicon) K q r590)) _ (fun _ _ _ h x => RLexicon.mono _ _ _ _ h x) hr675))) fun cs677 => ?_
      refine dt rfl (m1 rfl fin1) ?_
      refine DF.und (α := Option Addr × Nat) (none, 0) (fun q => .slice q.1 r598.length q.2) (fun (q : Option Addr × Nat) K => Sl (Flat encSwap) 3 K q.1 q.2 r598) (fun _ _ _ h x => x.mono (Flat.mono _) h) (by kernel_rfl) rfl (fun a w K hS hA hF => TG.pa hS hA (clK C20 rfl rfl rfl rfl (fun w H hH le => w20 hH (h_swaps.mono (Flat.mono _) (le.at 7 rfl)) hx599) (by
        rintro v_ K678 ⟨ad679, cap680, rfl, hl681⟩
        exact finU (f := fun q => .slice q.1 r598.length q.2) (G := (fun (q : Option Addr × Nat) K => Sl (Flat encSwap) 3 K q.1 q.2 r598)) (_, _) (fun _ _ _ h x => x.mono (Flat.mono _) h) hl681))) ?_
      rintro ⟨ad683, cap684⟩
      refine dt rfl (ldA G68 Z68 rfl rfl (sS 5 rfl hK18) rfl fin1) ?_
      refine DF.und (α := List Value) [] (fun q => .agg q.toArray) (fun (q : List Value) K => (RReport) K q r608) (fun _ _ _ h x => RReport.mono _ _ _ _ h x) (by kernel_rfl) rfl (fun a w K hS hA hF => TG.pa hS hA (clK C31 rfl rfl rfl rfl (fun w H hH le => w31 hH r_2 (RReport.mono _ _ _ _ (le.at 7 rfl) hh_r_2) hx609) (by
        rintro v_ K685 ⟨cs686, rfl, hr687⟩
        exact finU (f := fun q => .agg q.toArray) (G := (fun (q : List Value) K => (RReport) K q r608)) _ (fun _ _ _ h x => RReport.mono _ _ _ _ h x) hr687))) fun cs689 => ?_
      refine dt rfl (m1 rfl fin1) ?_
      refine DF.und (α := Option Addr × Nat) (none, 0) (fun q => .slice q.1 r690.length q.2) (fun (q : Option Addr × Nat) K => Sl (RRequest) 5 K q.1 q.2 r690) (fun _ _ _ h x => x.mono (RRequest.mono) h) (by kernel_rfl) rfl (fun a w K hS hA hF => TG.pa hS hA (clK C32 rfl rfl rfl rfl (fun w H hH le => w32 hH (hl672.mono (RRequest.mono) (le.at 1 rfl)) hx691) (by
        rintro v_ K693 ⟨ad694, cap695, rfl, hl696⟩
        exact finU (f := fun q => .slice q.1 r690.length q.2) (G := (fun (q : Option Addr × Nat) K => Sl (RRequest) 5 K q.1 q.2 r690)) (_, _) (fun _ _ _ h x => x.mono (RRequest.mono) h) hl696))) ?_
      rintro ⟨ad698, cap699⟩
      refine DF.und (α := Option Addr × Nat) (none, 0) (fun q => .tuple [.slice q.1 r700.1.length q.2, .int .i64 r700.2].toArray) (fun (q : Option Addr × Nat) K => Sl (Flat (encI .i64)) 1 K q.1 q.2 r700.1) (fun _ _ _ h x => x.mono (Flat.mono _) h) (by kernel_rfl) rfl (fun a w K hS hA hF => TG.pa hS hA (clK C29 rfl rfl rfl rfl (fun w H hH le => w29 hH (hg.mono (le.at 7 rfl)) r590 (RLexicon.mono _ _ _ _ (le.at 0 rfl) (hF.2.2.2.1 rfl)) ((hF.2.2.1 rfl).mono (Flat.mono _) (le.at 0 rfl)) r608 (RReport.mono _ _ _ _ (le.at 0 rfl) (hF.2.1 rfl)) ((hF.1 rfl).mono (RRequest.mono) (le.at 0 rfl)) hx701) (by
        rintro v_ K703 ⟨ad704, cap705, rfl, hl706⟩
        exact finU (f := fun q => .tuple [.slice q.1 r700.1.length q.2, .int .i64 r700.2].toArray) (G := (fun (q : Option Addr × Nat) K => Sl (Flat (encI .i64)) 1 K q.1 q.2 r700.1)) (ad704, cap705) (fun _ _ _ h x => x.mono (Flat.mono _) h) hl706))) ?_
      rintro ⟨ad708, cap709⟩
      refine DF.und () (fun _ => .tuple [.slice ad708 r700.1.length cap709, .int .i64 r700.2].toArray) (fun _ K => Sl (Flat (encI .i64)) 1 K ad708 cap709 r700.1) (fun _ _ _ h x => x.mono (Flat.mono _) h) (by kernel_rfl) rfl (fun a w K hS hA hF => TG.pa hS hA (m1 rfl (finF (f := fun _ => .tuple [.slice ad708 r700.1.length cap709, .int .i64 r700.2].toArray) (G := fun _ K => Sl (Flat (encI .i64)) 1 K ad708 cap709 r700.1) () (hF.1 rfl)))) fun _ => (DF.und () (fun _ => .slice ad708 r700.1.length cap709) (fun _ K => Sl (Flat (encI .i64)) 1 K ad708 cap709 r700.1) (fun _ _ _ h x => x.mono (Flat.mono _) h) (by kernel_rfl) rfl (fun a w K hS hA hF => TG.pa hS hA (ex rfl rfl rfl (finF (f := fun _ => .slice ad708 r700.1.length cap709) (G := fun _ K => Sl (Flat (encI .i64)) 1 K ad708 cap709 r700.1) () (hF.1 rfl)))) fun _ => (dt rfl (ex rfl rfl rfl fin1) (DF.und () (fun _ => .slice ad708 r700.1.length cap709) (fun _ K => Sl (Flat (encI .i64)) 1 K ad708 cap709 r700.1) (fun _ _ _ h x => x.mono (Flat.mono _) h) (by kernel_rfl) rfl (fun a w K hS hA hF => TG.pa hS hA (a1 rfl (finF (f := fun _ => .slice ad708 r700.1.length cap709) (G := fun _ K => Sl (Flat (encI .i64)) 1 K ad708 cap709 r700.1) () (hF.1 rfl)))) fun _ => (DF.nil fun K713 hF => ?_))))
      obtain ⟨hu712, hu711, hu710, hu707, hu697, hu688, hu682, hu676, _⟩ := hF
      have hr714 := hu676
      obtain ⟨ad715, cap716, ad718, cap719, ad721, cap722, rfl, hl717, hl720, hl723⟩ := hu676
      have := hl717.len
      have := hl720.len
      have := hl723.len
      have := hu682.len
      have hr724 := hu688
      obtain ⟨ad725, cap726, rfl, hl727⟩ := hu688
      have := hl727.len
      have := hu697.len
      have := hu707.len
      refine a1 rfl (on (sq ?_))
      obtain ⟨r752, hx753, hr754⟩ := bd_some hr702
      refine drG 13 mixed (by kernel_rfl) rfl (dt rfl (ldA G26 Z26 rfl rfl (sS 7 rfl hK15) rfl fin1) ?_)
      refine DF.und (α := List Value) [] (fun q => .agg q.toArray) (fun (q : List Value) K => (RLexicon) K q r590) (fun _ _ _ h x => RLexicon.mono _ _ _ _ h x) (by kernel_rfl) rfl (fun a w K hS hA hF => TG.pa hS hA (clK C19 rfl rfl rfl rfl (fun w H hH le => w19 hH l_0 (RLexicon.mono _ _ _ _ (le.at 8 rfl) hh_l_0) hx591) (by
        rintro v_ K728 ⟨cs729, rfl, hr730⟩
        exact finU (f := fun q => .agg q.toArray) (G := (fun (q : List Value) K => (RLexicon) K q r590)) _ (fun _ _ _ h x => RLexicon.mono _ _ _ _ h x) hr730))) fun cs732 => ?_
      refine dt rfl (m1 rfl fin1) ?_
      refine DF.und (α := Option Addr × Nat) (none, 0) (fun q => .slice q.1 r598.length q.2) (fun (q : Option Addr × Nat) K => Sl (Flat encSwap) 3 K q.1 q.2 r598) (fun _ _ _ h x => x.mono (Flat.mono _) h) (by kernel_rfl) rfl (fun a w K hS hA hF => TG.pa hS hA (clK C20 rfl rfl rfl rfl (fun w H hH le => w20 hH (h_swaps.mono (Flat.mono _) (le.at 8 rfl)) hx599) (by
        rintro v_ K733 ⟨ad734, cap735, rfl, hl736⟩
        exact finU (f := fun q => .slice q.1 r598.length q.2) (G := (fun (q : Option Addr × Nat) K => Sl (Flat encSwap) 3 K q.1 q.2 r598)) (_, _) (fun _ _ _ h x => x.mono (Flat.mono _) h) hl736))) ?_
      rintro ⟨ad738, cap739⟩
      refine dt rfl (ldA G68 Z68 rfl rfl (sS 6 rfl hK18) rfl fin1) ?_
      refine DF.und (α := List Value) [] (fun q => .agg q.toArray) (fun (q : List Value) K => (RReport) K q r608) (fun _ _ _ h x => RReport.mono _ _ _ _ h x) (by kernel_rfl) rfl (fun a w K hS hA hF => TG.pa hS hA (clK C31 rfl rfl rfl rfl (fun w H hH le => w31 hH r_2 (RReport.mono _ _ _ _ (le.at 8 rfl) hh_r_2) hx609) (by
        rintro v_ K740 ⟨cs741, rfl, hr742⟩
        exact finU (f := fun q => .agg q.toArray) (G := (fun (q : List Value) K => (RReport) K q r608)) _ (fun _ _ _ h x => RReport.mono _ _ _ _ h x) hr742))) fun cs744 => ?_
      refine dt rfl (m1 rfl fin1) ?_
      refine DF.und (α := Option Addr × Nat) (none, 0) (fun q => .slice q.1 r616.length q.2) (fun (q : Option Addr × Nat) K => Sl (RRequest) 5 K q.1 q.2 r616) (fun _ _ _ h x => x.mono (RRequest.mono) h) (by kernel_rfl) rfl (fun a w K hS hA hF => TG.pa hS hA (clK C32 rfl rfl rfl rfl (fun w H hH le => w32 hH (h_requests.mono (RRequest.mono) (le.at 8 rfl)) hx617) (by
        rintro v_ K745 ⟨ad746, cap747, rfl, hl748⟩
        exact finU (f := fun q => .slice q.1 r616.length q.2) (G := (fun (q : Option Addr × Nat) K => Sl (RRequest) 5 K q.1 q.2 r616)) (_, _) (fun _ _ _ h x => x.mono (RRequest.mono) h) hl748))) ?_
      rintro ⟨ad750, cap751⟩
      refine DF.und (α := Option Addr × Nat) (none, 0) (fun q => .tuple [.slice q.1 r752.1.length q.2, .int .i64 r752.2].toArray) (fun (q : Option Addr × Nat) K => Sl (RSegment) 3 K q.1 q.2 r752.1) (fun _ _ _ h x => x.mono (RSegment.mono) h) (by kernel_rfl) rfl (fun a w K hS hA hF => TG.pa hS hA (clK C42 rfl rfl rfl rfl (fun w H hH le => w42 hH (hg.mono (le.at 8 rfl)) r590 (RLexicon.mono _ _ _ _ (le.at 0 rfl) (hF.2.2.2.1 rfl)) ((hF.2.2.1 rfl).mono (Flat.mono _) (le.at 0 rfl)) r608 (RReport.mono _ _ _ _ (le.at 0 rfl) (hF.2.1 rfl)) ((hF.1 rfl).mono (RRequest.mono) (le.at 0 rfl)) hx753) (by
        rintro v_ K755 ⟨ad756, cap757, rfl, hl758⟩
        exact finU (f := fun q => .tuple [.slice q.1 r752.1.length q.2, .int .i64 r752.2].toArray) (G := (fun (q : Option Addr × Nat) K => Sl (RSegment) 3 K q.1 q.2 r752.1)) (ad756, cap757) (fun _ _ _ h x => x.mono (RSegment.mono) h) hl758))) ?_
      rintro ⟨ad760, cap761⟩
      refine DF.und () (fun _ => .tuple [.slice ad760 r752.1.length cap761, .int .i64 r752.2].toArray) (fun _ K => Sl (RSegment) 3 K ad760 cap761 r752.1) (fun _ _ _ h x => x.mono (RSegment.mono) h) (by kernel_rfl) rfl (fun a w K hS hA hF => TG.pa hS hA (m1 rfl (finF (f := fun _ => .tuple [.slice ad760 r752.1.length cap761, .int .i64 r752.2].toArray) (G := fun _ K => Sl (RSegment) 3 K ad760 cap761 r752.1) () (hF.1 rfl)))) fun _ => (DF.und () (fun _ => .slice ad760 r752.1.length cap761) (fun _ K => Sl (RSegment) 3 K ad760 cap761 r752.1) (fun _ _ _ h x => x.mono (RSegment.mono) h) (by kernel_rfl) rfl (fun a w K hS hA hF => TG.pa hS hA (ex rfl rfl rfl (finF (f := fun _ => .slice ad760 r752.1.length cap761) (G := fun _ K => Sl (RSegment) 3 K ad760 cap761 r752.1) () (hF.1 rfl)))) fun _ => (dt rfl (ex rfl rfl rfl fin1) (DF.und () (fun _ => .slice ad760 r752.1.length cap761) (fun _ K => Sl (RSegment) 3 K ad760 cap761 r752.1) (fun _ _ _ h x => x.mono (RSegment.mono) h) (by kernel_rfl) rfl (fun a w K hS hA hF => TG.pa hS hA (a1 rfl (finF (f := fun _ => .slice ad760 r752.1.length cap761) (G := fun _ K => Sl (RSegment) 3 K ad760 cap761 r752.1) () (hF.1 rfl)))) fun _ => (DF.nil fun K765 hF => ?_))))
      obtain ⟨hu764, hu763, hu762, hu759, hu749, hu743, hu737, hu731, _⟩ := hF
      have hr766 := hu731
      obtain ⟨ad767, cap768, ad770, cap771, ad773, cap774, rfl, hl769, hl772, hl775⟩ := hu731
      have := hl769.len
      have := hl772.len
      have := hl775.len
      have := hu737.len
      have hr776 := hu743
      obtain ⟨ad777, cap778, rfl, hl779⟩ := hu743
      have := hl779.len
      have := hu749.len
      have := hu759.len
      refine a1 rfl (on (sq ?_))
      obtain ⟨r804, hx805, hr806⟩ := bd_some hr754
      refine drG 13 mixed (by kernel_rfl) rfl (dt rfl (ldA G26 Z26 rfl rfl (sS 8 rfl hK15) rfl fin1) ?_)
      refine DF.und (α := List Value) [] (fun q => .agg q.toArray) (fun (q : List Value) K => (RLexicon) K q r590) (fun _ _ _ h x => RLexicon.mono _ _ _ _ h x) (by kernel_rfl) rfl (fun a w K hS hA hF => TG.pa hS hA (clK C19 rfl rfl rfl rfl (fun w H hH le => w19 hH l_0 (RLexicon.mono _ _ _ _ (le.at 9 rfl) hh_l_0) hx591) (by
        rintro v_ K780 ⟨cs781, rfl, hr782⟩
        exact finU (f := fun q => .agg q.toArray) (G := (fun (q : List Value) K => (RLexicon) K q r590)) _ (fun _ _ _ h x => RLexicon.mono _ _ _ _ h x) hr782))) fun cs784 => ?_
      refine dt rfl (m1 rfl fin1) ?_
      refine DF.und (α := Option Addr × Nat) (none, 0) (fun q => .slice q.1 r598.length q.2) (fun (q : Option Addr × Nat) K => Sl (Flat encSwap) 3 K q.1 q.2 r598) (fun _ _ _ h x => x.mono (Flat.mono _) h) (by kernel_rfl) rfl (fun a w K hS hA hF => TG.pa hS hA (clK C20 rfl rfl rfl rfl (fun w H hH le => w20 hH (h_swaps.mono (Flat.mono _) (le.at 9 rfl)) hx599) (by
        rintro v_ K785 ⟨ad786, cap787, rfl, hl788⟩
        exact finU (f := fun q => .slice q.1 r598.length q.2) (G := (fun (q : Option Addr × Nat) K => Sl (Flat encSwap) 3 K q.1 q.2 r598)) (_, _) (fun _ _ _ h x => x.mono (Flat.mono _) h) hl788))) ?_
      rintro ⟨ad790, cap791⟩
      refine dt rfl (ldA G68 Z68 rfl rfl (sS 7 rfl hK18) rfl fin1) ?_
      refine DF.und (α := List Value) [] (fun q => .agg q.toArray) (fun (q : List Value) K => (RReport) K q r608) (fun _ _ _ h x => RReport.mono _ _ _ _ h x) (by kernel_rfl) rfl (fun a w K hS hA hF => TG.pa hS hA (clK C31 rfl rfl rfl rfl (fun w H hH le => w31 hH r_2 (RReport.mono _ _ _ _ (le.at 9 rfl) hh_r_2) hx609) (by
        rintro v_ K792 ⟨cs793, rfl, hr794⟩
        exact finU (f := fun q => .agg q.toArray) (G := (fun (q : List Value) K => (RReport) K q r608)) _ (fun _ _ _ h x => RReport.mono _ _ _ _ h x) hr794))) fun cs796 => ?_
      refine dt rfl (m1 rfl fin1) ?_
      refine DF.und (α := Option Addr × Nat) (none, 0) (fun q => .slice q.1 r690.length q.2) (fun (q : Option Addr × Nat) K => Sl (RRequest) 5 K q.1 q.2 r690) (fun _ _ _ h x => x.mono (RRequest.mono) h) (by kernel_rfl) rfl (fun a w K hS hA hF => TG.pa hS hA (clK C32 rfl rfl rfl rfl (fun w H hH le => w32 hH (hl672.mono (RRequest.mono) (le.at 3 rfl)) hx691) (by
        rintro v_ K797 ⟨ad798, cap799, rfl, hl800⟩
        exact finU (f := fun q => .slice q.1 r690.length q.2) (G := (fun (q : Option Addr × Nat) K => Sl (RRequest) 5 K q.1 q.2 r690)) (_, _) (fun _ _ _ h x => x.mono (RRequest.mono) h) hl800))) ?_
      rintro ⟨ad802, cap803⟩
      refine DF.und (α := Option Addr × Nat) (none, 0) (fun q => .tuple [.slice q.1 r804.1.length q.2, .int .i64 r804.2].toArray) (fun (q : Option Addr × Nat) K => Sl (RSegment) 3 K q.1 q.2 r804.1) (fun _ _ _ h x => x.mono (RSegment.mono) h) (by kernel_rfl) rfl (fun a w K hS hA hF => TG.pa hS hA (clK C42 rfl rfl rfl rfl (fun w H hH le => w42 hH (hg.mono (le.at 9 rfl)) r590 (RLexicon.mono _ _ _ _ (le.at 0 rfl) (hF.2.2.2.1 rfl)) ((hF.2.2.1 rfl).mono (Flat.mono _) (le.at 0 rfl)) r608 (RReport.mono _ _ _ _ (le.at 0 rfl) (hF.2.1 rfl)) ((hF.1 rfl).mono (RRequest.mono) (le.at 0 rfl)) hx805) (by
        rintro v_ K807 ⟨ad808, cap809, rfl, hl810⟩
        exact finU (f := fun q => .tuple [.slice q.1 r804.1.length q.2, .int .i64 r804.2].toArray) (G := (fun (q : Option Addr × Nat) K => Sl (RSegment) 3 K q.1 q.2 r804.1)) (ad808, cap809) (fun _ _ _ h x => x.mono (RSegment.mono) h) hl810))) ?_
      rintro ⟨ad812, cap813⟩
      refine DF.und () (fun _ => .tuple [.slice ad812 r804.1.length cap813, .int .i64 r804.2].toArray) (fun _ K => Sl (RSegment) 3 K ad812 cap813 r804.1) (fun _ _ _ h x => x.mono (RSegment.mono) h) (by kernel_rfl) rfl (fun a w K hS hA hF => TG.pa hS hA (m1 rfl (finF (f := fun _ => .tuple [.slice ad812 r804.1.length cap813, .int .i64 r804.2].toArray) (G := fun _ K => Sl (RSegment) 3 K ad812 cap813 r804.1) () (hF.1 rfl)))) fun _ => (DF.und () (fun _ => .slice ad812 r804.1.length cap813) (fun _ K => Sl (RSegment) 3 K ad812 cap813 r804.1) (fun _ _ _ h x => x.mono (RSegment.mono) h) (by kernel_rfl) rfl (fun a w K hS hA hF => TG.pa hS hA (ex rfl rfl rfl (finF (f := fun _ => .slice ad812 r804.1.length cap813) (G := fun _ K => Sl (RSegment) 3 K ad812 cap813 r804.1) () (hF.1 rfl)))) fun _ => (dt rfl (ex rfl rfl rfl fin1) (DF.und () (fun _ => .slice ad812 r804.1.length cap813) (fun _ K => Sl (RSegment) 3 K ad812 cap813 r804.1) (fun _ _ _ h x => x.mono (RSegment.mono) h) (by kernel_rfl) rfl (fun a w K hS hA hF => TG.pa hS hA (a1 rfl (finF (f := fun _ => .slice ad812 r804.1.length cap813) (G := fun _ K => Sl (RSegment) 3 K ad812 cap813 r804.1) () (hF.1 rfl)))) fun _ => (DF.nil fun K817 hF => ?_))))
      obtain ⟨hu816, hu815, hu814, hu811, hu801, hu795, hu789, hu783, _⟩ := hF
      have hr818 := hu783
      obtain ⟨ad819, cap820, ad822, cap823, ad825, cap826, rfl, hl821, hl824, hl827⟩ := hu783
      have := hl821.len
      have := hl824.len
      have := hl827.len
      have := hu789.len
      have hr828 := hu795
      obtain ⟨ad829, cap830, rfl, hl831⟩ := hu795
      have := hl831.len
      have := hu801.len
      have := hu811.len
      refine a1 rfl (on (sq (sq ?_)))
      obtain ⟨t850, hx851, hr852⟩ := bd_some hr806
      refine jn (fun a w => St M W H [K817, K765, K713, K671, K639, K525, K412, K17, K14, H] [(2, Own.list (some ⟨b408, 0, none⟩) cap366 3 1 (encI .i64) ((e362.set 0 x405).set ((at_5 % (requests.length : Int)).toNat) x409))] w ∧ Has [] 306 a [(15, .int .i64 (requests.length : Int)), (16, .slice (some ⟨b408, 0, none⟩) e362.length cap366), (20, .slice ad634 r626.1.length cap635), (22, .slice ad708 r700.1.length cap709), (24, .slice ad760 r752.1.length cap761), (26, .slice ad812 r804.1.length cap813), (207, .bool t850)]) ?_ ?_
      ·refine rg (m1 rfl (neI rfl rfl rfl (m1 rfl ?_)))
       by_cases hb853 : r626.2 ≠ 0
       ·have hr854 := if_p hb853 hx851
        refine gf' hb853 rfl (gf' hb853 rfl (pt hb853 rfl rfl (m1 rfl (gF rfl rfl rfl rfl (gF rfl rfl rfl rfl (pT rfl rfl rfl rfl (m1 rfl (gF rfl rfl rfl rfl (gF rfl rfl rfl rfl (pT rfl rfl rfl rfl (m1 rfl ?_)))))))))))
        refine gF rfl rfl rfl rfl (gF rfl rfl rfl rfl (gF rfl rfl rfl rfl (gF rfl rfl rfl rfl (pT rfl rfl rfl rfl (m1 rfl (gF rfl rfl rfl rfl (gF rfl rfl rfl rfl (gF rfl rfl rfl rfl (gF rfl rfl rfl rfl (pT rfl rfl rfl rfl (m1 rfl ?_)))))))))))
        refine gF rfl rfl rfl rfl (gF rfl rfl rfl rfl (gF rfl rfl rfl rfl (gF rfl rfl rfl rfl (gF rfl rfl rfl rfl (pT rfl rfl rfl rfl (on ?_))))))
        cases hr854
        exact cu ⟨rfl, rfl, rfl, rfl, rfl, rfl, rfl, tv⟩
       ·have hr855 := if_n hb853 hx851
        refine gt' hb853 rfl (m1 rfl (gt' hb853 rfl (neI rfl rfl rfl (pf hb853 rfl rfl (m1 rfl ?_)))))
        by_cases hb856 : r700.2 ≠ 0
        ·have hr857 := if_p hb856 hr855
         refine gf' hb856 rfl (gf' hb856 rfl (pt hb856 rfl rfl (m1 rfl (gF rfl rfl rfl rfl (gF rfl rfl rfl rfl (pT rfl rfl rfl rfl (m1 rfl (gF rfl rfl rfl rfl (gF rfl rfl rfl rfl (gF rfl rfl rfl rfl (gF rfl rfl rfl rfl ?_)))))))))))
         refine pT rfl rfl rfl rfl (m1 rfl (gF rfl rfl rfl rfl (gF rfl rfl rfl rfl (gF rfl rfl rfl rfl (gF rfl rfl rfl rfl (pT rfl rfl rfl rfl (m1 rfl (gF rfl rfl rfl rfl (gF rfl rfl rfl rfl (gF rfl rfl rfl rfl (gF rfl rfl rfl rfl ?_)))))))))))
         refine gF rfl rfl rfl rfl (pT rfl rfl rfl rfl (on ?_))
         cases hr857
         exact cu ⟨rfl, rfl, rfl, rfl, rfl, rfl, rfl, tv⟩
        ·have hr858 := if_n hb856 hr855
         refine gt' hb856 rfl (m1 rfl (gt' hb856 rfl (neI rfl rfl rfl (pf hb856 rfl rfl (m1 rfl ?_)))))
         by_cases hb859 : r752.2 ≠ 0
         ·have hr860 := if_p hb859 hr858
          refine gf' hb859 rfl (gf' hb859 rfl (pt hb859 rfl rfl (m1 rfl (gF rfl rfl rfl rfl (gF rfl rfl rfl rfl (gF rfl rfl rfl rfl (gF rfl rfl rfl rfl (pT rfl rfl rfl rfl (m1 rfl (gF rfl rfl rfl rfl (gF rfl rfl rfl rfl ?_)))))))))))
          refine gF rfl rfl rfl rfl (gF rfl rfl rfl rfl (pT rfl rfl rfl rfl (m1 rfl (gF rfl rfl rfl rfl (gF rfl rfl rfl rfl (gF rfl rfl rfl rfl (gF rfl rfl rfl rfl (gF rfl rfl rfl rfl (pT rfl rfl rfl rfl (on ?_))))))))))
          cases hr860
          exact cu ⟨rfl, rfl, rfl, rfl, rfl, rfl, rfl, tv⟩
         ·have hr861 := if_n hb859 hr858
          refine gt' hb859 rfl (m1 rfl (gt' hb859 rfl (neI rfl rfl rfl (pf hb859 rfl rfl (m1 rfl ?_)))))
          by_cases hb862 : r804.2 ≠ 0
          ·have hr863 := if_p hb862 hr861
           refine gf' hb862 rfl (gf' hb862 rfl (gf' hb862 rfl (gf' hb862 rfl (pt hb862 rfl rfl (m1 rfl (gF rfl rfl rfl rfl (gF rfl rfl rfl rfl (gF rfl rfl rfl rfl (gF rfl rfl rfl rfl (pT rfl rfl rfl rfl (m1 rfl ?_)))))))))))
           refine gF rfl rfl rfl rfl (gF rfl rfl rfl rfl (gF rfl rfl rfl rfl (gF rfl rfl rfl rfl (gF rfl rfl rfl rfl (pT rfl rfl rfl rfl (on ?_))))))
           cases hr863
           exact cu ⟨rfl, rfl, rfl, rfl, rfl, rfl, rfl, tv⟩
          ·have hr864 := if_n hb862 hr861
           refine gt' hb862 rfl (m1 rfl (gt' hb862 rfl (lnL U59 rfl rfl (gt' hb862 rfl (m1 rfl (gt' hb862 rfl (neI rfl rfl rfl (pf hb862 rfl rfl (m1 rfl ?_)))))))))
           by_cases hb865 : (r626.1.length : Int) ≠ (requests.length : Int)
           ·have hr866 := if_p hb865 hr864
            refine gf' hb865 rfl (gf' hb865 rfl (gf' hb865 rfl (gf' hb865 rfl (pt hb865 rfl rfl (m1 rfl (gF rfl rfl rfl rfl (gF rfl rfl rfl rfl (gF rfl rfl rfl rfl (gF rfl rfl rfl rfl (gF rfl rfl rfl rfl (pT rfl rfl rfl rfl ?_)))))))))))
            refine on ?_
            cases hr866
            exact cu ⟨rfl, rfl, rfl, rfl, rfl, rfl, rfl, tv⟩
           ·have hr867 := if_n hb865 hr864
            refine gt' hb865 rfl (m1 rfl (gt' hb865 rfl (lnL U59 rfl rfl (gt' hb865 rfl (m1 rfl (gt' hb865 rfl (neI rfl rfl rfl (pf hb865 rfl rfl (m1 rfl ?_)))))))))
            by_cases hb868 : (r700.1.length : Int) ≠ (requests.length : Int)
            ·have hr869 := if_p hb868 hr867
             refine gf' hb868 rfl (gf' hb868 rfl (gf' hb868 rfl (gf' hb868 rfl (gf' hb868 rfl (pt hb868 rfl rfl (on ?_))))))
             cases hr869
             exact cu ⟨rfl, rfl, rfl, rfl, rfl, rfl, rfl, tv⟩
            ·have hr870 := if_n hb868 hr867
             refine gt' hb868 rfl (m1 rfl (gt' hb868 rfl (lnL U91 rfl rfl (gt' hb868 rfl (m1 rfl (gt' hb868 rfl (lnL U91 rfl rfl (gt' hb868 rfl (neI rfl rfl rfl (pf hb868 rfl rfl (on ?_)))))))))))
             cases hr870
             exact cu ⟨rfl, rfl, rfl, rfl, rfl, rfl, rfl, tv⟩
      ·rintro a w ⟨hS, hA⟩
       refine TG.ap ?_ hS hA
       refine cb rfl (fun hc874 => ?_) (fun hc874 => ?_)
       ·have hr875 := if_p hc874 hr852
        refine sq (rg (a1 rfl (on (rt_ ?_))))
        cases hr875
        intro a w hS hA
        refine ret1 hA rfl rfl ?_
        exact ⟨rfl, hS.ext⟩
       ·have hr876 := if_f hc874 hr852
        refine sk (sq (sq (rg (a1 rfl (on ?_)))))
        obtain ⟨e906, hl907, hr908⟩ := bd_some hr876
        refine jn (fun a w => ∃ t909, e906 = .inl t909 ∧ St M W H [K817, K765, K713, K671, K639, K525, K412, K17, K14, H] [(2, Own.list (some ⟨b408, 0, none⟩) cap366 3 1 (encI .i64) ((e362.set 0 x405).set ((at_5 % (requests.length : Int)).toNat) x409))] w ∧ Has [] 306 a [(15, .int .i64 (requests.length : Int)), (16, .slice (some ⟨b408, 0, none⟩) e362.length cap366), (24, .slice ad760 r752.1.length cap761), (26, .slice ad812 r804.1.length cap813)]) ?_ ?_
        ·refine bk ?_
         refine lp hl907 (fun s910 a w => St M W H [K817, K765, K713, K671, K639, K525, K412, K17, K14, H] [(2, Own.list (some ⟨b408, 0, none⟩) cap366 3 1 (encI .i64) ((e362.set 0 x405).set ((at_5 % (requests.length : Int)).toNat) x409))] w ∧ Has [] 306 a [(15, .int .i64 (requests.length : Int)), (16, .slice (some ⟨b408, 0, none⟩) e362.length cap366), (20, .slice ad634 r626.1.length cap635), (22, .slice ad708 r700.1.length cap709), (24, .slice ad760 r752.1.length cap761), (26, .slice ad812 r804.1.length cap813), (28, .int .i64 (s910 : Int))]) ?_ ?_
         ·exact cu ⟨rfl, rfl, rfl, rfl, rfl, rfl, rfl, tv⟩
         ·rintro j s910 y913 hr911 hz912 a w ⟨hS, hA⟩
          refine TG.ap ?_ hS hA
          unfold m13_5 at hr911
          refine sq (sq (rg (m1 rfl (m1 rfl (ltI rfl rfl rfl (on ?_))))))
          refine ci rfl (fun hc917 => ?_) (fun hc917 => ?_)
          ·have hr918 := if_p hc917 hr911
           refine sk (sq (bk (sq ?_)))
           obtain ⟨x944, hx945, hr946⟩ := bd_some hr918
           obtain ⟨p947, rfl⟩ := hu712.adr hx945
           obtain ⟨cs948, hcs949, hq950, hr951⟩ := hu712.at hx945
           obtain rfl := hr951
           obtain ⟨x952, hx953, hr954⟩ := bd_some hr946
           obtain ⟨hk955, hr956⟩ := chk_some hr954
           obtain ⟨x957, hx958, hr959⟩ := bd_some hr956
           obtain ⟨p960, rfl⟩ := hu638.adr hx958
           obtain ⟨cs961, hcs962, hq963, hr964⟩ := hu638.at hx958
           obtain rfl := hr964
           refine drG 11 mixed (by kernel_rfl) rfl (dt rfl (m1 rfl fin1) (dt rfl (m1 rfl fin1) (dt rfl (iaP U59 Z31 rfl rfl rfl rfl (lt_of hx945) fin1) (dt rfl (ld G31 rfl rfl (sS 3 rfl hq950) rfl fin1) (dt rfl (m1 rfl fin1) (dt rfl (m1 rfl fin1) (dt rfl (m1 rfl fin1) (dt rfl (iaP U86 Z3 rfl rfl rfl rfl (Nat.lt_of_lt_of_eq (lt_of hx953) hln417) fin1) (dt rfl (ld G3 rfl rfl (sE 2 rfl (fun _ => rfl) hx953) rfl fin1) (dt rfl (iaP U59 Z31 rfl rfl rfl (by omega) (lt_of hx958) fin1) (dt rfl (ld G31 rfl rfl (sS 5 rfl hq963) rfl fin1) ?_)))))))))))
           refine DF.nil fun K965 hF => (neI rfl rfl rfl (on ?_))
           refine ci rfl (fun hc969 => ?_) (fun hc969 => ?_)
           ·have hr970 := if_p hc969 hr959
            refine sq (rg (a1 rfl (on (rt_ ?_))))
            cases hr970
            obtain rfl := Fin.out hz912
            cases hr908
            intro a w hS hA
            refine ret1 hA rfl rfl ?_
            exact ⟨rfl, hS.ext⟩
           ·have hr971 := if_n hc969 hr959
            refine sk (rg (m1 rfl (adI rfl rfl rfl (by omega) (a1 rfl (on ?_)))))
            cases hr971
            intro a w hS hA
            exact ⟨_, hz912, hS.selH [1, 2, 3, 4, 5, 6, 7, 8, 9, 10] rfl, hA.cut ⟨rfl, rfl, rfl, rfl, rfl, rfl, rfl, tv⟩⟩
          ·have hr972 := if_n hc917 hr911
           refine xt rfl ?_
           cases hr972
           obtain rfl := Fin.out hz912
           intro a w hS hA
           exact ⟨_, rfl, hS, hA.cut ⟨rfl, rfl, rfl, rfl, tv⟩⟩
        ·rintro a w ⟨t909, rfl, hS, hA⟩
         refine TG.ap ?_ hS hA
         refine sq (sq (rg (a1 rfl (on ?_))))
         obtain ⟨e1041, hl1042, hr1043⟩ := bd_some hr908
         refine jn (fun a w => ∃ t1044, e1041 = .inl t1044 ∧ St M W H [K817, K765, K713, K671, K639, K525, K412, K17, K14, H] [(2, Own.list (some ⟨b408, 0, none⟩) cap366 3 1 (encI .i64) ((e362.set 0 x405).set ((at_5 % (requests.length : Int)).toNat) x409))] w ∧ Has [] 306 a []) ?_ ?_
         ·refine bk ?_
          refine lp hl1042 (fun s1045 a w => St M W H [K817, K765, K713, K671, K639, K525, K412, K17, K14, H] [(2, Own.list (some ⟨b408, 0, none⟩) cap366 3 1 (encI .i64) ((e362.set 0 x405).set ((at_5 % (requests.length : Int)).toNat) x409))] w ∧ Has [] 306 a [(15, .int .i64 (requests.length : Int)), (16, .slice (some ⟨b408, 0, none⟩) e362.length cap366), (24, .slice ad760 r752.1.length cap761), (26, .slice ad812 r804.1.length cap813), (29, .int .i64 (s1045 : Int))]) ?_ ?_
          ·exact cu ⟨rfl, rfl, rfl, rfl, rfl, tv⟩
          ·rintro j s1045 y1048 hr1046 hz1047 a w ⟨hS, hA⟩
           refine TG.ap ?_ hS hA
           unfold m13_6 at hr1046
           refine sq (sq (rg (m1 rfl (m1 rfl (lnL U91 rfl rfl (ltI rfl rfl rfl (on ?_)))))))
           refine ci rfl (fun hc1052 => ?_) (fun hc1052 => ?_)
           ·have hr1053 := if_p hc1052 hr1046
            refine sk (sq (bk (sq ?_)))
            obtain ⟨t1178, hx1179, hr1180⟩ := bd_some hr1053
            refine jn (fun a w => St M W H [K817, K765, K713, K671, K639, K525, K412, K17, K14, H] [(2, Own.list (some ⟨b408, 0, none⟩) cap366 3 1 (encI .i64) ((e362.set 0 x405).set ((at_5 % (requests.length : Int)).toNat) x409))] w ∧ Has [] 306 a [(15, .int .i64 (requests.length : Int)), (16, .slice (some ⟨b408, 0, none⟩) e362.length cap366), (24, .slice ad760 r752.1.length cap761), (26, .slice ad812 r804.1.length cap813), (29, .int .i64 (s1045 : Int)), (304, .bool t1178)]) ?_ ?_
            ·obtain ⟨x1181, hx1182, hr1183⟩ := bd_some hx1179
             obtain ⟨p1184, rfl⟩ := hu764.adr hx1182
             obtain ⟨cs1185, hcs1186, hq1187, hr1188⟩ := hu764.at hx1182
             have hr1189 := hr1188
             obtain ⟨ad1190, cap1191, ad1193, cap1194, rfl, hl1192, hl1195⟩ := hr1188
             have := hl1192.len
             have := hl1195.len
             obtain ⟨x1196, hx1197, hr1198⟩ := bd_some hr1183
             obtain ⟨p1199, rfl⟩ := hu816.adr hx1197
             obtain ⟨cs1200, hcs1201, hq1202, hr1203⟩ := hu816.at hx1197
             have hr1204 := hr1203
             obtain ⟨ad1205, cap1206, ad1208, cap1209, rfl, hl1207, hl1210⟩ := hr1203
             have := hl1207.len
             have := hl1210.len
             obtain ⟨r1211, hx1212, hr1213⟩ := bd_some hr1198
             rcases Bool.eq_false_or_eq_true (r1211) with hb1214 | hb1214
             ·have hr1215 := if_p hb1214 hr1213
              obtain ⟨r1216, hx1217, hr1218⟩ := bd_some hr1215
              rcases Bool.eq_false_or_eq_true (r1216) with hb1219 | hb1219
              ·have hr1220 := if_p hb1219 hr1218
               rcases Bool.eq_false_or_eq_true (decide (x1181.request < 0) == decide (x1196.request < 0)) with hb1221 | hb1221
               ·have hr1222 := if_p hb1221 hr1220
                by_cases hb1223 : (requests.length : Int) ≤ x1196.request
                ·have hr1224 := if_p hb1223 hr1222
                 refine drG 71 mixed (by kernel_rfl) rfl (dt rfl (m1 rfl fin1) (dt rfl (m1 rfl fin1) (dt rfl (iaP U91 Z98 rfl rfl rfl rfl (lt_of hx1182) fin1) (dt rfl (fb 0 U98 rfl rfl rfl rfl Z24 fin1) (dt rfl (ld G24 rfl rfl ((sS 2 rfl hq1187).take 1) rfl fin1) (dt rfl (m1 rfl fin1) (dt rfl (m1 rfl fin1) (dt rfl (iaP U91 Z98 rfl rfl rfl rfl (lt_of hx1197) fin1) (dt rfl (fb 0 U98 rfl rfl rfl rfl Z24 fin1) (dt rfl (ld G24 rfl rfl ((sS 1 rfl hq1202).take 1) rfl fin1) (dt rfl (clS C46 rfl rfl rfl rfl (fun w H hH le => w46 hH (hl1192.mono (Flat.mono _) (le.at 2 rfl)) (hl1207.mono (Flat.mono _) (le.at 1 rfl)) hx1212) fin1) ?_)))))))))))
                 refine dt rfl (nt rfl rfl fin1) (dt rfl (m1 rfl fin1) (dt rfl (gN rfl rfl (congrArg not (hb1214)) (m1 rfl fin1)) (dt rfl (gN rfl rfl (congrArg not (hb1214)) (m1 rfl fin1)) (dt rfl (gN rfl rfl (congrArg not (hb1214)) (iaP U91 Z98 rfl rfl rfl rfl (lt_of hx1182) fin1)) (dt rfl (gN rfl rfl (congrArg not (hb1214)) (fb 1 U98 rfl rfl rfl rfl Z24 fin1)) (dt rfl (gN rfl rfl (congrArg not (hb1214)) (ld G24 rfl rfl (((sS 2 rfl hq1187).drop 1).take 1) rfl fin1)) (dt rfl (gN rfl rfl (congrArg not (hb1214)) (m1 rfl fin1)) (dt rfl (gN rfl rfl (congrArg not (hb1214)) (m1 rfl fin1)) (dt rfl (gN rfl rfl (congrArg not (hb1214)) (iaP U91 Z98 rfl rfl rfl rfl (lt_of hx1197) fin1)) (dt rfl (gN rfl rfl (congrArg not (hb1214)) (fb 1 U98 rfl rfl rfl rfl Z24 fin1)) (dt rfl (gN rfl rfl (congrArg not (hb1214)) (ld G24 rfl rfl (((sS 1 rfl hq1202).drop 1).take 1) rfl fin1)) ?_)))))))))))
                 refine dt rfl (gN rfl rfl (congrArg not (hb1214)) (clS C46 rfl rfl rfl rfl (fun w H hH le => w46 hH (hl1195.mono (Flat.mono _) (le.at 2 rfl)) (hl1210.mono (Flat.mono _) (le.at 1 rfl)) hx1217) fin1)) (dt rfl (gN rfl rfl (congrArg not (hb1214)) (nt rfl rfl fin1)) (dt rfl (pF rfl rfl (congrArg not (hb1214)) rfl fin1) (dt rfl (m1 rfl fin1) (dt rfl (gN rfl rfl (congrArg not (hb1219)) (m1 rfl fin1)) (dt rfl (gN rfl rfl (congrArg not (hb1219)) (m1 rfl fin1)) (dt rfl (gN rfl rfl (congrArg not (hb1219)) (iaP U91 Z98 rfl rfl rfl rfl (lt_of hx1182) fin1)) (dt rfl (gN rfl rfl (congrArg not (hb1219)) (fb 2 U98 rfl rfl rfl rfl Z3 fin1)) (dt rfl (gN rfl rfl (congrArg not (hb1219)) (ld G3 rfl rfl ((sS 2 rfl hq1187).drop 2) rfl fin1)) (dt rfl (gN rfl rfl (congrArg not (hb1219)) (ltI rfl rfl rfl fin1)) (dt rfl (gN rfl rfl (congrArg not (hb1219)) (m1 rfl fin1)) (dt rfl (gN rfl rfl (congrArg not (hb1219)) (m1 rfl fin1)) ?_)))))))))))
                 refine dt rfl (gN rfl rfl (congrArg not (hb1219)) (iaP U91 Z98 rfl rfl rfl rfl (lt_of hx1197) fin1)) (dt rfl (gN rfl rfl (congrArg not (hb1219)) (fb 2 U98 rfl rfl rfl rfl Z3 fin1)) (dt rfl (gN rfl rfl (congrArg not (hb1219)) (ld G3 rfl rfl ((sS 1 rfl hq1202).drop 2) rfl fin1)) (dt rfl (gN rfl rfl (congrArg not (hb1219)) (ltI rfl rfl rfl fin1)) (dt rfl (gN rfl rfl (congrArg not (hb1219)) (neB U4 rfl rfl rfl fin1)) (dt rfl (pF rfl rfl (congrArg not (hb1219)) rfl fin1) (dt rfl (m1 rfl fin1) (dt rfl (gN rfl rfl (congrArg not (hb1221)) (m1 rfl fin1)) (dt rfl (gN rfl rfl (congrArg not (hb1221)) (m1 rfl fin1)) (dt rfl (gN rfl rfl (congrArg not (hb1221)) (iaP U91 Z98 rfl rfl rfl rfl (lt_of hx1197) fin1)) (dt rfl (gN rfl rfl (congrArg not (hb1221)) (fb 2 U98 rfl rfl rfl rfl Z3 fin1)) (dt rfl (gN rfl rfl (congrArg not (hb1221)) (ld G3 rfl rfl ((sS 1 rfl hq1202).drop 2) rfl fin1)) ?_)))))))))))
                 refine dt rfl (gN rfl rfl (congrArg not (hb1221)) (m1 rfl fin1)) (dt rfl (gN rfl rfl (congrArg not (hb1221)) (geI rfl rfl rfl fin1)) (dt rfl (pF rfl rfl (congrArg not (hb1221)) rfl fin1) (dt rfl (m1 rfl fin1) (dt rfl (gf' hb1223 rfl fin1) (dt rfl (gf' hb1223 rfl fin1) (dt rfl (gf' hb1223 rfl fin1) (dt rfl (gf' hb1223 rfl fin1) (dt rfl (gf' hb1223 rfl fin1) (dt rfl (gf' hb1223 rfl fin1) (dt rfl (gf' hb1223 rfl fin1) (dt rfl (gU rfl rfl rfl fin1) ?_)))))))))))
                 refine dt rfl (gU rfl rfl rfl fin1) (dt rfl (gU rfl rfl rfl fin1) (dt rfl (gU rfl rfl rfl fin1) (dt rfl (gU rfl rfl rfl fin1) (dt rfl (gU rfl rfl rfl fin1) (dt rfl (gU rfl rfl rfl fin1) (dt rfl (gU rfl rfl rfl fin1) (dt rfl (gU rfl rfl rfl fin1) (dt rfl (gU rfl rfl rfl fin1) (dt rfl (gU rfl rfl rfl fin1) (dt rfl (gU rfl rfl rfl fin1) (dt rfl (gU rfl rfl rfl fin1) ?_)))))))))))
                 refine DF.nil fun K1225 hF => (gU rfl rfl rfl (gf' hb1223 rfl (pt hb1223 rfl rfl (on ?_))))
                 cases hr1224
                 intro a w hS hA
                 exact ⟨hS.selH [1, 2, 3, 4, 5, 6, 7, 8, 9, 10] rfl, hA.cut ⟨rfl, rfl, rfl, rfl, rfl, rfl, tv⟩⟩
                ·have hr1226 := if_n hb1223 hr1222
                 by_cases hb1227 : 0 ≤ x1196.request
                 ·have hr1228 := if_p hb1227 hr1226
                  obtain ⟨x1229, hx1230, hr1231⟩ := bd_some hr1228
                  refine drG 71 mixed (by kernel_rfl) rfl (dt rfl (m1 rfl fin1) (dt rfl (m1 rfl fin1) (dt rfl (iaP U91 Z98 rfl rfl rfl rfl (lt_of hx1182) fin1) (dt rfl (fb 0 U98 rfl rfl rfl rfl Z24 fin1) (dt rfl (ld G24 rfl rfl ((sS 2 rfl hq1187).take 1) rfl fin1) (dt rfl (m1 rfl fin1) (dt rfl (m1 rfl fin1) (dt rfl (iaP U91 Z98 rfl rfl rfl rfl (lt_of hx1197) fin1) (dt rfl (fb 0 U98 rfl rfl rfl rfl Z24 fin1) (dt rfl (ld G24 rfl rfl ((sS 1 rfl hq1202).take 1) rfl fin1) (dt rfl (clS C46 rfl rfl rfl rfl (fun w H hH le => w46 hH (hl1192.mono (Flat.mono _) (le.at 2 rfl)) (hl1207.mono (Flat.mono _) (le.at 1 rfl)) hx1212) fin1) ?_)))))))))))
                  refine dt rfl (nt rfl rfl fin1) (dt rfl (m1 rfl fin1) (dt rfl (gN rfl rfl (congrArg not (hb1214)) (m1 rfl fin1)) (dt rfl (gN rfl rfl (congrArg not (hb1214)) (m1 rfl fin1)) (dt rfl (gN rfl rfl (congrArg not (hb1214)) (iaP U91 Z98 rfl rfl rfl rfl (lt_of hx1182) fin1)) (dt rfl (gN rfl rfl (congrArg not (hb1214)) (fb 1 U98 rfl rfl rfl rfl Z24 fin1)) (dt rfl (gN rfl rfl (congrArg not (hb1214)) (ld G24 rfl rfl (((sS 2 rfl hq1187).drop 1).take 1) rfl fin1)) (dt rfl (gN rfl rfl (congrArg not (hb1214)) (m1 rfl fin1)) (dt rfl (gN rfl rfl (congrArg not (hb1214)) (m1 rfl fin1)) (dt rfl (gN rfl rfl (congrArg not (hb1214)) (iaP U91 Z98 rfl rfl rfl rfl (lt_of hx1197) fin1)) (dt rfl (gN rfl rfl (congrArg not (hb1214)) (fb 1 U98 rfl rfl rfl rfl Z24 fin1)) (dt rfl (gN rfl rfl (congrArg not (hb1214)) (ld G24 rfl rfl (((sS 1 rfl hq1202).drop 1).take 1) rfl fin1)) ?_)))))))))))
                  refine dt rfl (gN rfl rfl (congrArg not (hb1214)) (clS C46 rfl rfl rfl rfl (fun w H hH le => w46 hH (hl1195.mono (Flat.mono _) (le.at 2 rfl)) (hl1210.mono (Flat.mono _) (le.at 1 rfl)) hx1217) fin1)) (dt rfl (gN rfl rfl (congrArg not (hb1214)) (nt rfl rfl fin1)) (dt rfl (pF rfl rfl (congrArg not (hb1214)) rfl fin1) (dt rfl (m1 rfl fin1) (dt rfl (gN rfl rfl (congrArg not (hb1219)) (m1 rfl fin1)) (dt rfl (gN rfl rfl (congrArg not (hb1219)) (m1 rfl fin1)) (dt rfl (gN rfl rfl (congrArg not (hb1219)) (iaP U91 Z98 rfl rfl rfl rfl (lt_of hx1182) fin1)) (dt rfl (gN rfl rfl (congrArg not (hb1219)) (fb 2 U98 rfl rfl rfl rfl Z3 fin1)) (dt rfl (gN rfl rfl (congrArg not (hb1219)) (ld G3 rfl rfl ((sS 2 rfl hq1187).drop 2) rfl fin1)) (dt rfl (gN rfl rfl (congrArg not (hb1219)) (ltI rfl rfl rfl fin1)) (dt rfl (gN rfl rfl (congrArg not (hb1219)) (m1 rfl fin1)) (dt rfl (gN rfl rfl (congrArg not (hb1219)) (m1 rfl fin1)) ?_)))))))))))
                  refine dt rfl (gN rfl rfl (congrArg not (hb1219)) (iaP U91 Z98 rfl rfl rfl rfl (lt_of hx1197) fin1)) (dt rfl (gN rfl rfl (congrArg not (hb1219)) (fb 2 U98 rfl rfl rfl rfl Z3 fin1)) (dt rfl (gN rfl rfl (congrArg not (hb1219)) (ld G3 rfl rfl ((sS 1 rfl hq1202).drop 2) rfl fin1)) (dt rfl (gN rfl rfl (congrArg not (hb1219)) (ltI rfl rfl rfl fin1)) (dt rfl (gN rfl rfl (congrArg not (hb1219)) (neB U4 rfl rfl rfl fin1)) (dt rfl (pF rfl rfl (congrArg not (hb1219)) rfl fin1) (dt rfl (m1 rfl fin1) (dt rfl (gN rfl rfl (congrArg not (hb1221)) (m1 rfl fin1)) (dt rfl (gN rfl rfl (congrArg not (hb1221)) (m1 rfl fin1)) (dt rfl (gN rfl rfl (congrArg not (hb1221)) (iaP U91 Z98 rfl rfl rfl rfl (lt_of hx1197) fin1)) (dt rfl (gN rfl rfl (congrArg not (hb1221)) (fb 2 U98 rfl rfl rfl rfl Z3 fin1)) (dt rfl (gN rfl rfl (congrArg not (hb1221)) (ld G3 rfl rfl ((sS 1 rfl hq1202).drop 2) rfl fin1)) ?_)))))))))))
                  refine dt rfl (gN rfl rfl (congrArg not (hb1221)) (m1 rfl fin1)) (dt rfl (gN rfl rfl (congrArg not (hb1221)) (geI rfl rfl rfl fin1)) (dt rfl (pF rfl rfl (congrArg not (hb1221)) rfl fin1) (dt rfl (m1 rfl fin1) (dt rfl (gt' hb1223 rfl (m1 rfl fin1)) (dt rfl (gt' hb1223 rfl (m1 rfl fin1)) (dt rfl (gt' hb1223 rfl (iaP U91 Z98 rfl rfl rfl rfl (lt_of hx1197) fin1)) (dt rfl (gt' hb1223 rfl (fb 2 U98 rfl rfl rfl rfl Z3 fin1)) (dt rfl (gt' hb1223 rfl (ld G3 rfl rfl ((sS 1 rfl hq1202).drop 2) rfl fin1)) (dt rfl (gt' hb1223 rfl (geI rfl rfl rfl fin1)) (dt rfl (gt' hb1223 rfl (m1 rfl fin1)) (dt rfl (gt hb1227 rfl (m1 rfl fin1)) ?_)))))))))))
                  refine dt rfl (gt hb1227 rfl (m1 rfl fin1)) (dt rfl (gt hb1227 rfl (m1 rfl fin1)) (dt rfl (gt hb1227 rfl (iaP U91 Z98 rfl rfl rfl rfl (lt_of hx1197) fin1)) (dt rfl (gt hb1227 rfl (fb 2 U98 rfl rfl rfl rfl Z3 fin1)) (dt rfl (gt hb1227 rfl (ld G3 rfl rfl ((sS 1 rfl hq1202).drop 2) rfl fin1)) (dt rfl (gt hb1227 rfl (iaP U86 Z3 rfl rfl rfl (by omega) (Nat.lt_of_lt_of_eq (lt_of hx1230) hln417) fin1)) (dt rfl (gt hb1227 rfl (ld G3 rfl rfl (sE 2 rfl (fun _ => rfl) hx1230) rfl fin1)) (dt rfl (gt hb1227 rfl (m1 rfl fin1)) (dt rfl (gt hb1227 rfl (m1 rfl fin1)) (dt rfl (gt hb1227 rfl (iaP U91 Z98 rfl rfl rfl rfl (lt_of hx1182) fin1)) (dt rfl (gt hb1227 rfl (fb 2 U98 rfl rfl rfl rfl Z3 fin1)) (dt rfl (gt hb1227 rfl (ld G3 rfl rfl ((sS 2 rfl hq1187).drop 2) rfl fin1)) ?_)))))))))))
                  refine DF.nil fun K1232 hF => (gt hb1227 rfl (neI rfl rfl rfl (gt' hb1223 rfl (pt hb1227 rfl rfl (pf hb1223 rfl rfl (on ?_))))))
                  cases hr1231
                  intro a w hS hA
                  exact ⟨hS.selH [1, 2, 3, 4, 5, 6, 7, 8, 9, 10] rfl, hA.cut ⟨rfl, rfl, rfl, rfl, rfl, rfl, tv⟩⟩
                 ·have hr1233 := if_n hb1227 hr1226
                  refine drG 71 mixed (by kernel_rfl) rfl (dt rfl (m1 rfl fin1) (dt rfl (m1 rfl fin1) (dt rfl (iaP U91 Z98 rfl rfl rfl rfl (lt_of hx1182) fin1) (dt rfl (fb 0 U98 rfl rfl rfl rfl Z24 fin1) (dt rfl (ld G24 rfl rfl ((sS 2 rfl hq1187).take 1) rfl fin1) (dt rfl (m1 rfl fin1) (dt rfl (m1 rfl fin1) (dt rfl (iaP U91 Z98 rfl rfl rfl rfl (lt_of hx1197) fin1) (dt rfl (fb 0 U98 rfl rfl rfl rfl Z24 fin1) (dt rfl (ld G24 rfl rfl ((sS 1 rfl hq1202).take 1) rfl fin1) (dt rfl (clS C46 rfl rfl rfl rfl (fun w H hH le => w46 hH (hl1192.mono (Flat.mono _) (le.at 2 rfl)) (hl1207.mono (Flat.mono _) (le.at 1 rfl)) hx1212) fin1) ?_)))))))))))
                  refine dt rfl (nt rfl rfl fin1) (dt rfl (m1 rfl fin1) (dt rfl (gN rfl rfl (congrArg not (hb1214)) (m1 rfl fin1)) (dt rfl (gN rfl rfl (congrArg not (hb1214)) (m1 rfl fin1)) (dt rfl (gN rfl rfl (congrArg not (hb1214)) (iaP U91 Z98 rfl rfl rfl rfl (lt_of hx1182) fin1)) (dt rfl (gN rfl rfl (congrArg not (hb1214)) (fb 1 U98 rfl rfl rfl rfl Z24 fin1)) (dt rfl (gN rfl rfl (congrArg not (hb1214)) (ld G24 rfl rfl (((sS 2 rfl hq1187).drop 1).take 1) rfl fin1)) (dt rfl (gN rfl rfl (congrArg not (hb1214)) (m1 rfl fin1)) (dt rfl (gN rfl rfl (congrArg not (hb1214)) (m1 rfl fin1)) (dt rfl (gN rfl rfl (congrArg not (hb1214)) (iaP U91 Z98 rfl rfl rfl rfl (lt_of hx1197) fin1)) (dt rfl (gN rfl rfl (congrArg not (hb1214)) (fb 1 U98 rfl rfl rfl rfl Z24 fin1)) (dt rfl (gN rfl rfl (congrArg not (hb1214)) (ld G24 rfl rfl (((sS 1 rfl hq1202).drop 1).take 1) rfl fin1)) ?_)))))))))))
                  refine dt rfl (gN rfl rfl (congrArg not (hb1214)) (clS C46 rfl rfl rfl rfl (fun w H hH le => w46 hH (hl1195.mono (Flat.mono _) (le.at 2 rfl)) (hl1210.mono (Flat.mono _) (le.at 1 rfl)) hx1217) fin1)) (dt rfl (gN rfl rfl (congrArg not (hb1214)) (nt rfl rfl fin1)) (dt rfl (pF rfl rfl (congrArg not (hb1214)) rfl fin1) (dt rfl (m1 rfl fin1) (dt rfl (gN rfl rfl (congrArg not (hb1219)) (m1 rfl fin1)) (dt rfl (gN rfl rfl (congrArg not (hb1219)) (m1 rfl fin1)) (dt rfl (gN rfl rfl (congrArg not (hb1219)) (iaP U91 Z98 rfl rfl rfl rfl (lt_of hx1182) fin1)) (dt rfl (gN rfl rfl (congrArg not (hb1219)) (fb 2 U98 rfl rfl rfl rfl Z3 fin1)) (dt rfl (gN rfl rfl (congrArg not (hb1219)) (ld G3 rfl rfl ((sS 2 rfl hq1187).drop 2) rfl fin1)) (dt rfl (gN rfl rfl (congrArg not (hb1219)) (ltI rfl rfl rfl fin1)) (dt rfl (gN rfl rfl (congrArg not (hb1219)) (m1 rfl fin1)) (dt rfl (gN rfl rfl (congrArg not (hb1219)) (m1 rfl fin1)) ?_)))))))))))
                  refine dt rfl (gN rfl rfl (congrArg not (hb1219)) (iaP U91 Z98 rfl rfl rfl rfl (lt_of hx1197) fin1)) (dt rfl (gN rfl rfl (congrArg not (hb1219)) (fb 2 U98 rfl rfl rfl rfl Z3 fin1)) (dt rfl (gN rfl rfl (congrArg not (hb1219)) (ld G3 rfl rfl ((sS 1 rfl hq1202).drop 2) rfl fin1)) (dt rfl (gN rfl rfl (congrArg not (hb1219)) (ltI rfl rfl rfl fin1)) (dt rfl (gN rfl rfl (congrArg not (hb1219)) (neB U4 rfl rfl rfl fin1)) (dt rfl (pF rfl rfl (congrArg not (hb1219)) rfl fin1) (dt rfl (m1 rfl fin1) (dt rfl (gN rfl rfl (congrArg not (hb1221)) (m1 rfl fin1)) (dt rfl (gN rfl rfl (congrArg not (hb1221)) (m1 rfl fin1)) (dt rfl (gN rfl rfl (congrArg not (hb1221)) (iaP U91 Z98 rfl rfl rfl rfl (lt_of hx1197) fin1)) (dt rfl (gN rfl rfl (congrArg not (hb1221)) (fb 2 U98 rfl rfl rfl rfl Z3 fin1)) (dt rfl (gN rfl rfl (congrArg not (hb1221)) (ld G3 rfl rfl ((sS 1 rfl hq1202).drop 2) rfl fin1)) ?_)))))))))))
                  refine dt rfl (gN rfl rfl (congrArg not (hb1221)) (m1 rfl fin1)) (dt rfl (gN rfl rfl (congrArg not (hb1221)) (geI rfl rfl rfl fin1)) (dt rfl (pF rfl rfl (congrArg not (hb1221)) rfl fin1) (dt rfl (m1 rfl fin1) (dt rfl (gt' hb1223 rfl (m1 rfl fin1)) (dt rfl (gt' hb1223 rfl (m1 rfl fin1)) (dt rfl (gt' hb1223 rfl (iaP U91 Z98 rfl rfl rfl rfl (lt_of hx1197) fin1)) (dt rfl (gt' hb1223 rfl (fb 2 U98 rfl rfl rfl rfl Z3 fin1)) (dt rfl (gt' hb1223 rfl (ld G3 rfl rfl ((sS 1 rfl hq1202).drop 2) rfl fin1)) (dt rfl (gt' hb1223 rfl (geI rfl rfl rfl fin1)) (dt rfl (gt' hb1223 rfl (m1 rfl fin1)) (dt rfl (gf hb1227 rfl fin1) ?_)))))))))))
                  refine dt rfl (gf hb1227 rfl fin1) (dt rfl (gf hb1227 rfl fin1) (dt rfl (gf hb1227 rfl fin1) (dt rfl (gf hb1227 rfl fin1) (dt rfl (gf hb1227 rfl fin1) (dt rfl (gf hb1227 rfl fin1) (dt rfl (gf hb1227 rfl fin1) (dt rfl (gf hb1227 rfl fin1) (dt rfl (gf hb1227 rfl fin1) (dt rfl (gf hb1227 rfl fin1) (dt rfl (gf hb1227 rfl fin1) (dt rfl (gf hb1227 rfl fin1) ?_)))))))))))
                  refine DF.nil fun K1234 hF => (gf hb1227 rfl (gt' hb1223 rfl (pf hb1227 rfl rfl (pf hb1223 rfl rfl (on ?_)))))
                  cases hr1233
                  intro a w hS hA
                  exact ⟨hS.selH [1, 2, 3, 4, 5, 6, 7, 8, 9, 10] rfl, hA.cut ⟨rfl, rfl, rfl, rfl, rfl, rfl, tv⟩⟩
               ·have hr1235 := if_f hb1221 hr1220
                refine drG 71 mixed (by kernel_rfl) rfl (dt rfl (m1 rfl fin1) (dt rfl (m1 rfl fin1) (dt rfl (iaP U91 Z98 rfl rfl rfl rfl (lt_of hx1182) fin1) (dt rfl (fb 0 U98 rfl rfl rfl rfl Z24 fin1) (dt rfl (ld G24 rfl rfl ((sS 2 rfl hq1187).take 1) rfl fin1) (dt rfl (m1 rfl fin1) (dt rfl (m1 rfl fin1) (dt rfl (iaP U91 Z98 rfl rfl rfl rfl (lt_of hx1197) fin1) (dt rfl (fb 0 U98 rfl rfl rfl rfl Z24 fin1) (dt rfl (ld G24 rfl rfl ((sS 1 rfl hq1202).take 1) rfl fin1) (dt rfl (clS C46 rfl rfl rfl rfl (fun w H hH le => w46 hH (hl1192.mono (Flat.mono _) (le.at 2 rfl)) (hl1207.mono (Flat.mono _) (le.at 1 rfl)) hx1212) fin1) ?_)))))))))))
                refine dt rfl (nt rfl rfl fin1) (dt rfl (m1 rfl fin1) (dt rfl (gN rfl rfl (congrArg not (hb1214)) (m1 rfl fin1)) (dt rfl (gN rfl rfl (congrArg not (hb1214)) (m1 rfl fin1)) (dt rfl (gN rfl rfl (congrArg not (hb1214)) (iaP U91 Z98 rfl rfl rfl rfl (lt_of hx1182) fin1)) (dt rfl (gN rfl rfl (congrArg not (hb1214)) (fb 1 U98 rfl rfl rfl rfl Z24 fin1)) (dt rfl (gN rfl rfl (congrArg not (hb1214)) (ld G24 rfl rfl (((sS 2 rfl hq1187).drop 1).take 1) rfl fin1)) (dt rfl (gN rfl rfl (congrArg not (hb1214)) (m1 rfl fin1)) (dt rfl (gN rfl rfl (congrArg not (hb1214)) (m1 rfl fin1)) (dt rfl (gN rfl rfl (congrArg not (hb1214)) (iaP U91 Z98 rfl rfl rfl rfl (lt_of hx1197) fin1)) (dt rfl (gN rfl rfl (congrArg not (hb1214)) (fb 1 U98 rfl rfl rfl rfl Z24 fin1)) (dt rfl (gN rfl rfl (congrArg not (hb1214)) (ld G24 rfl rfl (((sS 1 rfl hq1202).drop 1).take 1) rfl fin1)) ?_)))))))))))
                refine dt rfl (gN rfl rfl (congrArg not (hb1214)) (clS C46 rfl rfl rfl rfl (fun w H hH le => w46 hH (hl1195.mono (Flat.mono _) (le.at 2 rfl)) (hl1210.mono (Flat.mono _) (le.at 1 rfl)) hx1217) fin1)) (dt rfl (gN rfl rfl (congrArg not (hb1214)) (nt rfl rfl fin1)) (dt rfl (pF rfl rfl (congrArg not (hb1214)) rfl fin1) (dt rfl (m1 rfl fin1) (dt rfl (gN rfl rfl (congrArg not (hb1219)) (m1 rfl fin1)) (dt rfl (gN rfl rfl (congrArg not (hb1219)) (m1 rfl fin1)) (dt rfl (gN rfl rfl (congrArg not (hb1219)) (iaP U91 Z98 rfl rfl rfl rfl (lt_of hx1182) fin1)) (dt rfl (gN rfl rfl (congrArg not (hb1219)) (fb 2 U98 rfl rfl rfl rfl Z3 fin1)) (dt rfl (gN rfl rfl (congrArg not (hb1219)) (ld G3 rfl rfl ((sS 2 rfl hq1187).drop 2) rfl fin1)) (dt rfl (gN rfl rfl (congrArg not (hb1219)) (ltI rfl rfl rfl fin1)) (dt rfl (gN rfl rfl (congrArg not (hb1219)) (m1 rfl fin1)) (dt rfl (gN rfl rfl (congrArg not (hb1219)) (m1 rfl fin1)) ?_)))))))))))
                refine dt rfl (gN rfl rfl (congrArg not (hb1219)) (iaP U91 Z98 rfl rfl rfl rfl (lt_of hx1197) fin1)) (dt rfl (gN rfl rfl (congrArg not (hb1219)) (fb 2 U98 rfl rfl rfl rfl Z3 fin1)) (dt rfl (gN rfl rfl (congrArg not (hb1219)) (ld G3 rfl rfl ((sS 1 rfl hq1202).drop 2) rfl fin1)) (dt rfl (gN rfl rfl (congrArg not (hb1219)) (ltI rfl rfl rfl fin1)) (dt rfl (gN rfl rfl (congrArg not (hb1219)) (neB U4 rfl rfl rfl fin1)) (dt rfl (pF rfl rfl (congrArg not (hb1219)) rfl fin1) (dt rfl (m1 rfl fin1) (dt rfl (gF rfl rfl (congrArg not (hb1221)) rfl fin1) (dt rfl (gF rfl rfl (congrArg not (hb1221)) rfl fin1) (dt rfl (gF rfl rfl (congrArg not (hb1221)) rfl fin1) (dt rfl (gF rfl rfl (congrArg not (hb1221)) rfl fin1) (dt rfl (gF rfl rfl (congrArg not (hb1221)) rfl fin1) ?_)))))))))))
                refine dt rfl (gF rfl rfl (congrArg not (hb1221)) rfl fin1) (dt rfl (gF rfl rfl (congrArg not (hb1221)) rfl fin1) (dt rfl (pT rfl rfl (congrArg not (hb1221)) rfl fin1) (dt rfl (m1 rfl fin1) (dt rfl (gF rfl rfl rfl rfl fin1) (dt rfl (gF rfl rfl rfl rfl fin1) (dt rfl (gF rfl rfl rfl rfl fin1) (dt rfl (gF rfl rfl rfl rfl fin1) (dt rfl (gF rfl rfl rfl rfl fin1) (dt rfl (gF rfl rfl rfl rfl fin1) (dt rfl (gF rfl rfl rfl rfl fin1) (dt rfl (gU rfl rfl rfl fin1) ?_)))))))))))
                refine dt rfl (gU rfl rfl rfl fin1) (dt rfl (gU rfl rfl rfl fin1) (dt rfl (gU rfl rfl rfl fin1) (dt rfl (gU rfl rfl rfl fin1) (dt rfl (gU rfl rfl rfl fin1) (dt rfl (gU rfl rfl rfl fin1) (dt rfl (gU rfl rfl rfl fin1) (dt rfl (gU rfl rfl rfl fin1) (dt rfl (gU rfl rfl rfl fin1) (dt rfl (gU rfl rfl rfl fin1) (dt rfl (gU rfl rfl rfl fin1) (dt rfl (gU rfl rfl rfl fin1) ?_)))))))))))
                refine DF.nil fun K1236 hF => (gU rfl rfl rfl (gF rfl rfl rfl rfl (pT rfl rfl rfl rfl (on ?_))))
                cases hr1235
                intro a w hS hA
                exact ⟨hS.selH [1, 2, 3, 4, 5, 6, 7, 8, 9, 10] rfl, hA.cut ⟨rfl, rfl, rfl, rfl, rfl, rfl, tv⟩⟩
              ·have hr1237 := if_f hb1219 hr1218
               refine drG 71 mixed (by kernel_rfl) rfl (dt rfl (m1 rfl fin1) (dt rfl (m1 rfl fin1) (dt rfl (iaP U91 Z98 rfl rfl rfl rfl (lt_of hx1182) fin1) (dt rfl (fb 0 U98 rfl rfl rfl rfl Z24 fin1) (dt rfl (ld G24 rfl rfl ((sS 2 rfl hq1187).take 1) rfl fin1) (dt rfl (m1 rfl fin1) (dt rfl (m1 rfl fin1) (dt rfl (iaP U91 Z98 rfl rfl rfl rfl (lt_of hx1197) fin1) (dt rfl (fb 0 U98 rfl rfl rfl rfl Z24 fin1) (dt rfl (ld G24 rfl rfl ((sS 1 rfl hq1202).take 1) rfl fin1) (dt rfl (clS C46 rfl rfl rfl rfl (fun w H hH le => w46 hH (hl1192.mono (Flat.mono _) (le.at 2 rfl)) (hl1207.mono (Flat.mono _) (le.at 1 rfl)) hx1212) fin1) ?_)))))))))))
               refine dt rfl (nt rfl rfl fin1) (dt rfl (m1 rfl fin1) (dt rfl (gN rfl rfl (congrArg not (hb1214)) (m1 rfl fin1)) (dt rfl (gN rfl rfl (congrArg not (hb1214)) (m1 rfl fin1)) (dt rfl (gN rfl rfl (congrArg not (hb1214)) (iaP U91 Z98 rfl rfl rfl rfl (lt_of hx1182) fin1)) (dt rfl (gN rfl rfl (congrArg not (hb1214)) (fb 1 U98 rfl rfl rfl rfl Z24 fin1)) (dt rfl (gN rfl rfl (congrArg not (hb1214)) (ld G24 rfl rfl (((sS 2 rfl hq1187).drop 1).take 1) rfl fin1)) (dt rfl (gN rfl rfl (congrArg not (hb1214)) (m1 rfl fin1)) (dt rfl (gN rfl rfl (congrArg not (hb1214)) (m1 rfl fin1)) (dt rfl (gN rfl rfl (congrArg not (hb1214)) (iaP U91 Z98 rfl rfl rfl rfl (lt_of hx1197) fin1)) (dt rfl (gN rfl rfl (congrArg not (hb1214)) (fb 1 U98 rfl rfl rfl rfl Z24 fin1)) (dt rfl (gN rfl rfl (congrArg not (hb1214)) (ld G24 rfl rfl (((sS 1 rfl hq1202).drop 1).take 1) rfl fin1)) ?_)))))))))))
               refine dt rfl (gN rfl rfl (congrArg not (hb1214)) (clS C46 rfl rfl rfl rfl (fun w H hH le => w46 hH (hl1195.mono (Flat.mono _) (le.at 2 rfl)) (hl1210.mono (Flat.mono _) (le.at 1 rfl)) hx1217) fin1)) (dt rfl (gN rfl rfl (congrArg not (hb1214)) (nt rfl rfl fin1)) (dt rfl (pF rfl rfl (congrArg not (hb1214)) rfl fin1) (dt rfl (m1 rfl fin1) (dt rfl (gF rfl rfl (congrArg not (hb1219)) rfl fin1) (dt rfl (gF rfl rfl (congrArg not (hb1219)) rfl fin1) (dt rfl (gF rfl rfl (congrArg not (hb1219)) rfl fin1) (dt rfl (gF rfl rfl (congrArg not (hb1219)) rfl fin1) (dt rfl (gF rfl rfl (congrArg not (hb1219)) rfl fin1) (dt rfl (gF rfl rfl (congrArg not (hb1219)) rfl fin1) (dt rfl (gF rfl rfl (congrArg not (hb1219)) rfl fin1) (dt rfl (gF rfl rfl (congrArg not (hb1219)) rfl fin1) ?_)))))))))))
               refine dt rfl (gF rfl rfl (congrArg not (hb1219)) rfl fin1) (dt rfl (gF rfl rfl (congrArg not (hb1219)) rfl fin1) (dt rfl (gF rfl rfl (congrArg not (hb1219)) rfl fin1) (dt rfl (gF rfl rfl (congrArg not (hb1219)) rfl fin1) (dt rfl (gF rfl rfl (congrArg not (hb1219)) rfl fin1) (dt rfl (pT rfl rfl (congrArg not (hb1219)) rfl fin1) (dt rfl (m1 rfl fin1) (dt rfl (gF rfl rfl rfl rfl fin1) (dt rfl (gF rfl rfl rfl rfl fin1) (dt rfl (gF rfl rfl rfl rfl fin1) (dt rfl (gF rfl rfl rfl rfl fin1) (dt rfl (gF rfl rfl rfl rfl fin1) ?_)))))))))))
               refine dt rfl (gF rfl rfl rfl rfl fin1) (dt rfl (gF rfl rfl rfl rfl fin1) (dt rfl (pT rfl rfl rfl rfl fin1) (dt rfl (m1 rfl fin1) (dt rfl (gF rfl rfl rfl rfl fin1) (dt rfl (gF rfl rfl rfl rfl fin1) (dt rfl (gF rfl rfl rfl rfl fin1) (dt rfl (gF rfl rfl rfl rfl fin1) (dt rfl (gF rfl rfl rfl rfl fin1) (dt rfl (gF rfl rfl rfl rfl fin1) (dt rfl (gF rfl rfl rfl rfl fin1) (dt rfl (gU rfl rfl rfl fin1) ?_)))))))))))
               refine dt rfl (gU rfl rfl rfl fin1) (dt rfl (gU rfl rfl rfl fin1) (dt rfl (gU rfl rfl rfl fin1) (dt rfl (gU rfl rfl rfl fin1) (dt rfl (gU rfl rfl rfl fin1) (dt rfl (gU rfl rfl rfl fin1) (dt rfl (gU rfl rfl rfl fin1) (dt rfl (gU rfl rfl rfl fin1) (dt rfl (gU rfl rfl rfl fin1) (dt rfl (gU rfl rfl rfl fin1) (dt rfl (gU rfl rfl rfl fin1) (dt rfl (gU rfl rfl rfl fin1) ?_)))))))))))
               refine DF.nil fun K1238 hF => (gU rfl rfl rfl (gF rfl rfl rfl rfl (pT rfl rfl rfl rfl (on ?_))))
               cases hr1237
               intro a w hS hA
               exact ⟨hS.selH [1, 2, 3, 4, 5, 6, 7, 8, 9, 10] rfl, hA.cut ⟨rfl, rfl, rfl, rfl, rfl, rfl, tv⟩⟩
             ·have hr1239 := if_f hb1214 hr1213
              refine drG 71 mixed (by kernel_rfl) rfl (dt rfl (m1 rfl fin1) (dt rfl (m1 rfl fin1) (dt rfl (iaP U91 Z98 rfl rfl rfl rfl (lt_of hx1182) fin1) (dt rfl (fb 0 U98 rfl rfl rfl rfl Z24 fin1) (dt rfl (ld G24 rfl rfl ((sS 2 rfl hq1187).take 1) rfl fin1) (dt rfl (m1 rfl fin1) (dt rfl (m1 rfl fin1) (dt rfl (iaP U91 Z98 rfl rfl rfl rfl (lt_of hx1197) fin1) (dt rfl (fb 0 U98 rfl rfl rfl rfl Z24 fin1) (dt rfl (ld G24 rfl rfl ((sS 1 rfl hq1202).take 1) rfl fin1) (dt rfl (clS C46 rfl rfl rfl rfl (fun w H hH le => w46 hH (hl1192.mono (Flat.mono _) (le.at 2 rfl)) (hl1207.mono (Flat.mono _) (le.at 1 rfl)) hx1212) fin1) ?_)))))))))))
              refine dt rfl (nt rfl rfl fin1) (dt rfl (m1 rfl fin1) (dt rfl (gF rfl rfl (congrArg not (hb1214)) rfl fin1) (dt rfl (gF rfl rfl (congrArg not (hb1214)) rfl fin1) (dt rfl (gF rfl rfl (congrArg not (hb1214)) rfl fin1) (dt rfl (gF rfl rfl (congrArg not (hb1214)) rfl fin1) (dt rfl (gF rfl rfl (congrArg not (hb1214)) rfl fin1) (dt rfl (gF rfl rfl (congrArg not (hb1214)) rfl fin1) (dt rfl (gF rfl rfl (congrArg not (hb1214)) rfl fin1) (dt rfl (gF rfl rfl (congrArg not (hb1214)) rfl fin1) (dt rfl (gF rfl rfl (congrArg not (hb1214)) rfl fin1) (dt rfl (gF rfl rfl (congrArg not (hb1214)) rfl fin1) ?_)))))))))))
              refine dt rfl (gF rfl rfl (congrArg not (hb1214)) rfl fin1) (dt rfl (gF rfl rfl (congrArg not (hb1214)) rfl fin1) (dt rfl (pT rfl rfl (congrArg not (hb1214)) rfl fin1) (dt rfl (m1 rfl fin1) (dt rfl (gF rfl rfl rfl rfl fin1) (dt rfl (gF rfl rfl rfl rfl fin1) (dt rfl (gF rfl rfl rfl rfl fin1) (dt rfl (gF rfl rfl rfl rfl fin1) (dt rfl (gF rfl rfl rfl rfl fin1) (dt rfl (gF rfl rfl rfl rfl fin1) (dt rfl (gF rfl rfl rfl rfl fin1) (dt rfl (gF rfl rfl rfl rfl fin1) ?_)))))))))))
              refine dt rfl (gF rfl rfl rfl rfl fin1) (dt rfl (gF rfl rfl rfl rfl fin1) (dt rfl (gF rfl rfl rfl rfl fin1) (dt rfl (gF rfl rfl rfl rfl fin1) (dt rfl (gF rfl rfl rfl rfl fin1) (dt rfl (pT rfl rfl rfl rfl fin1) (dt rfl (m1 rfl fin1) (dt rfl (gF rfl rfl rfl rfl fin1) (dt rfl (gF rfl rfl rfl rfl fin1) (dt rfl (gF rfl rfl rfl rfl fin1) (dt rfl (gF rfl rfl rfl rfl fin1) (dt rfl (gF rfl rfl rfl rfl fin1) ?_)))))))))))
              refine dt rfl (gF rfl rfl rfl rfl fin1) (dt rfl (gF rfl rfl rfl rfl fin1) (dt rfl (pT rfl rfl rfl rfl fin1) (dt rfl (m1 rfl fin1) (dt rfl (gF rfl rfl rfl rfl fin1) (dt rfl (gF rfl rfl rfl rfl fin1) (dt rfl (gF rfl rfl rfl rfl fin1) (dt rfl (gF rfl rfl rfl rfl fin1) (dt rfl (gF rfl rfl rfl rfl fin1) (dt rfl (gF rfl rfl rfl rfl fin1) (dt rfl (gF rfl rfl rfl rfl fin1) (dt rfl (gU rfl rfl rfl fin1) ?_)))))))))))
              refine dt rfl (gU rfl rfl rfl fin1) (dt rfl (gU rfl rfl rfl fin1) (dt rfl (gU rfl rfl rfl fin1) (dt rfl (gU rfl rfl rfl fin1) (dt rfl (gU rfl rfl rfl fin1) (dt rfl (gU rfl rfl rfl fin1) (dt rfl (gU rfl rfl rfl fin1) (dt rfl (gU rfl rfl rfl fin1) (dt rfl (gU rfl rfl rfl fin1) (dt rfl (gU rfl rfl rfl fin1) (dt rfl (gU rfl rfl rfl fin1) (dt rfl (gU rfl rfl rfl fin1) ?_)))))))))))
              refine DF.nil fun K1240 hF => (gU rfl rfl rfl (gF rfl rfl rfl rfl (pT rfl rfl rfl rfl (on ?_))))
              cases hr1239
              intro a w hS hA
              exact ⟨hS.selH [1, 2, 3, 4, 5, 6, 7, 8, 9, 10] rfl, hA.cut ⟨rfl, rfl, rfl, rfl, rfl, rfl, tv⟩⟩
            ·rintro a w ⟨hS, hA⟩
             refine TG.ap ?_ hS hA
             refine cb rfl (fun hc1244 => ?_) (fun hc1244 => ?_)
             ·have hr1245 := if_p hc1244 hr1180
              refine sq (rg (a1 rfl (on (rt_ ?_))))
              cases hr1245
              obtain rfl := Fin.out hz1047
              cases hr1043
              intro a w hS hA
              refine ret1 hA rfl rfl ?_
              exact ⟨rfl, hS.ext⟩
             ·have hr1246 := if_f hc1244 hr1180
              refine sk (rg (m1 rfl (adI rfl rfl rfl (by omega) (a1 rfl (on ?_)))))
              cases hr1246
              intro a w hS hA
              exact ⟨_, hz1047, hS, hA.cut ⟨rfl, rfl, rfl, rfl, rfl, tv⟩⟩
           ·have hr1247 := if_n hc1052 hr1046
            refine xt rfl ?_
            cases hr1247
            obtain rfl := Fin.out hz1047
            intro a w hS hA
            exact ⟨_, rfl, hS, hA.cut tv⟩
         ·rintro a w ⟨t1044, rfl, hS, hA⟩
          refine TG.ap ?_ hS hA
          refine sq (rg ?_)
          obtain ⟨r1248, hx1249, hr1250⟩ := bd_some hr1043
          refine clS C17 rfl rfl rfl rfl (fun w H hH le => w17 hH (hg.mono (le.at 9 rfl))  hx1249) (a1 rfl (on (rt_ ?_)))
          cases hr1250
          intro a w hS hA
          refine ret1 hA rfl rfl ?_
          exact ⟨rfl, hS.ext⟩

end T4
