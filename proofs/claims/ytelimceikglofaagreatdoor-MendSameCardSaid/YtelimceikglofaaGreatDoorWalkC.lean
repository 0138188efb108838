/-
 Walks of functions of layer 4: each call comes to what the model says. Printed by a program of ours.
-/
import Derived.Test.YtelimceikglofaaGreatDoorWalkB
set_option linter.all false
set_option maxHeartbeats 4000000
namespace T4
open Go Go.Proofs Pk
theorem w42 {M : Prop} {W : World} {H : Hp} (hH : H.le (hp W)) (hg : Gv M H) {cs_l_0 : List Value} (l_0 : Lexicon) (h_l_0 : (RLexicon) H cs_l_0 l_0) {ad_swaps : Option Addr} {cap_swaps : Nat} {swaps : List Swap} (h_swaps : Sl (Flat encSwap) 3 H ad_swaps cap_swaps swaps) {cs_r_2 : List Value} (r_2 : Report) (h_r_2 : (RReport) H cs_r_2 r_2) {ad_requests : Option Addr} {cap_requests : Nat} {requests : List Request} (h_requests : Sl (RRequest) 5 H ad_requests cap_requests requests) {r : List Segment × Int} (hr : m42 l_0 swaps r_2 requests = some r) : Calls Tryz.prog 42 [.agg cs_l_0.toArray, .slice ad_swaps swaps.length cap_swaps, .agg cs_r_2.toArray, .slice ad_requests requests.length cap_requests].toArray W (RetK M H W (fun v K => ∃ (ad0 : Option Addr) (cap0 : Nat), v = .tuple [.slice ad0 r.1.length cap0, .int .i64 r.2].toArray ∧ Sl (RSegment) 3 K ad0 cap0 r.1)) := by
 have hh_l_0 := h_l_0
 obtain ⟨ad1, cap2, ad4, cap5, ad7, cap8, rfl, hl3, hl6, hl9⟩ := h_l_0
 have := hl3.len
 have := hl6.len
 have := hl9.len
 have := h_swaps.len
 have hh_r_2 := h_r_2
 obtain ⟨ad10, cap11, rfl, hl12⟩ := h_r_2
 have := hl12.len
 have := h_requests.len
 unfold m42 at hr
 refine enterG (M := M) Tryz.func42 rfl Tryz.ntmps42 rfl hH ?_
 refine sq (rg (bI (cs := [.slice ad1 l_0.numbers.length cap2, .slice ad4 l_0.names.length cap5, .slice ad7 l_0.nots.length cap8]) rfl rfl rfl fun q13 K14 hK15 => (bI (cs := [.slice ad10 r_2.words.length cap11, .int .i64 r_2.out, .int .i64 r_2.within]) rfl rfl rfl fun q16 K17 hK18 => (bI (cs := [.slice ad_requests requests.length cap_requests]) rfl rfl rfl fun q19 K20 hK21 => (a1 rfl (a1 rfl (on (sq (rg (ldA G36 Z36 rfl rfl (sS 2 rfl hK15) rfl (m1 rfl ?_)))))))))))
 refine ldA G56 Z56 rfl rfl (sS 1 rfl hK18) rfl (ld G64 rfl rfl (sS 0 rfl hK21) rfl ?_)
 obtain ⟨t1085, hx1086, hr1087⟩ := bd_some hr
 refine clI C59 Tryz.func59 rfl Tryz.ntmps59 rfl rfl rfl rfl (fun v w => (∃ (t1088 : Int), t1085 = (.inl t1088) ∧ v = .tuple [.pointer none, .int .i64 t1088].toArray ∧ St M W H [K20, K17, K14, H] [] w) ∨ (∃ (t1089 : List Int × List Request × List Said × (List (Bytes × Mark)) × List Swap × List Int), t1085 = (.inr t1089) ∧ ∃ (b1090 : Nat) (ad1091 : Option Addr) (cap1092 : Nat) (ad1093 : Option Addr) (cap1094 : Nat) (css1095 : List (List Value)) (K1096 : Hp) (ad1098 : Option Addr) (cap1099 : Nat) (K1100 : Hp) (mp1102 : Value) (K1103 : Hp) (ad1105 : Option Addr) (cap1106 : Nat) (K1107 : Hp) (ad1109 : Option Addr) (cap1110 : Nat), v = .tuple [.pointer (some (⟨b1090, 0, none⟩)), .int .i64 0].toArray ∧ St M W H [K1096, K1100, K1103, K1107, K20, K17, K14, H] [(8, Own.list ad1091 cap1092 3 1 (encI .i64) t1089.1), (7, Own.rows ad1093 cap1094 63 5 css1095 t1089.2.1), (2, cel b1090 133 [.slice ad1098 t1089.2.2.1.length cap1099, .int .i64 r_2.out, .int .i64 r_2.within, mp1102, .slice ad1105 t1089.2.2.2.2.1.length cap1106, .slice ad1093 t1089.2.1.length cap1094, .slice ad1091 t1089.1.length cap1092, .slice ad1109 t1089.2.2.2.2.2.length cap1110]), (1, Own.list ad1109 cap1110 31 1 (encI .i64) t1089.2.2.2.2.2)] w ∧ Rows (RRequest) 5 K1096 css1095 t1089.2.1 ∧ Sl (Flat encSaid) 2 K1100 ad1098 cap1099 t1089.2.2.1 ∧ Mp keS (fun x => Value.agg (encMark x).toArray) K1103 mp1102 t1089.2.2.2.1 ∧ Sl (Flat encSwap) 3 K1107 ad1105 cap1106 t1089.2.2.2.2.1)) ?_ ?_
 ·refine sq (rg (bI (cs := [.slice ad1 l_0.numbers.length cap2, .slice ad4 l_0.names.length cap5, .slice ad7 l_0.nots.length cap8]) rfl rfl rfl fun q1111 K1112 hK1113 => (bI (cs := [.slice ad10 r_2.words.length cap11, .int .i64 r_2.out, .int .i64 r_2.within]) rfl rfl rfl fun q1114 K1115 hK1116 => (bI (cs := [.slice ad_requests requests.length cap_requests]) rfl rfl rfl fun q1117 K1118 hK1119 => (a1 rfl (a1 rfl (on (sq (rg (ldA G36 Z36 rfl rfl (sS 2 rfl hK1113) rfl (m1 rfl ?_)))))))))))
  obtain ⟨r1120, hx1121, hr1122⟩ := bd_some hx1086
  refine clK C51 rfl rfl rfl rfl (fun w H hH le => w51 hH l_0 (RLexicon.mono _ _ _ _ (le.at 6 rfl) hh_l_0) (h_swaps.mono (Flat.mono _) (le.at 6 rfl)) hx1121) ?_
  rintro v_ K1123 ⟨cs1124, rfl, hr1125⟩
  have hr1126 := hr1125
  obtain ⟨mp1127, ad1129, cap1130, rfl, hm1128, hl1131⟩ := hr1125
  have := hl1131.len
  refine m1 rfl (ex rfl rfl rfl (ex rfl rfl rfl ?_))
  obtain ⟨b1132, rfl⟩ := Mp.isMap hm1128
  refine va (cs := [.map b1132, .slice ad1129 r1120.1.swaps.length cap1130]) Tryz.zeroValue117 Z117 rfl rfl rfl rfl rfl rfl rfl rfl fun q1133 K1134 hK1135 => (a1 rfl (on (sq (sq (rg (m1 rfl (neI rfl rfl rfl (on ?_))))))))
  refine ci rfl (fun hc1139 => ?_) (fun hc1139 => ?_)
  ·have hr1140 := if_p hc1139 hr1122
   refine sq (rg (m1 rfl (a1 rfl (a1 rfl (on (rt_ ?_))))))
   cases hr1140
   intro a w hS hA
   refine ret2 hA rfl rfl rfl ?_
   exact ⟨_, rfl, .inl ⟨_, rfl, rfl, hS.selH [5, 6, 7, 8] rfl⟩⟩
  ·have hr1141 := if_n hc1139 hr1122
   refine sk (sq (sq (rg (ldA G56 Z56 rfl rfl (sS 3 rfl hK1116) rfl ?_))))
   obtain ⟨r1142, hx1143, hr1144⟩ := bd_some hr1141
   refine clS C61 rfl rfl rfl rfl (fun w H hH le => w61 hH r_2 (RReport.mono _ _ _ _ (le.at 8 rfl) hh_r_2) hx1143) (a1 rfl (on (sq (rg (m1 rfl (neI rfl rfl rfl (on ?_)))))))
   refine ci rfl (fun hc1148 => ?_) (fun hc1148 => ?_)
   ·have hr1149 := if_p hc1148 hr1144
    refine sq (rg (m1 rfl (a1 rfl (a1 rfl (on (rt_ ?_))))))
    cases hr1149
    intro a w hS hA
    refine ret2 hA rfl rfl rfl ?_
    exact ⟨_, rfl, .inl ⟨_, rfl, rfl, hS.selH [5, 6, 7, 8] rfl⟩⟩
   ·have hr1150 := if_n hc1148 hr1144
    refine sk (sq (sq (rg (ld G64 rfl rfl (sS 2 rfl hK1119) rfl (lnL U64 rfl rfl (gtI rfl rfl rfl (on ?_)))))))
    refine ci rfl (fun hc1154 => ?_) (fun hc1154 => ?_)
    ·have hr1155 := if_p hc1154 hr1150
     refine sq (rg (a1 rfl (a1 rfl (on (rt_ ?_)))))
     cases hr1155
     intro a w hS hA
     refine ret2 hA rfl rfl rfl ?_
     exact ⟨_, rfl, .inl ⟨_, rfl, rfl, hS.selH [5, 6, 7, 8] rfl⟩⟩
    ·have hr1156 := if_n hc1154 hr1150
     refine sk (sq ?_)
     obtain ⟨hk1157, hr1158⟩ := chk_some hr1156
     have : (List.replicate requests.length (0 : Int)).length = requests.length := List.length_replicate
     refine drG2 5 4 mixed (by kernel_rfl) rfl rfl (DG.detA rfl rfl rfl (fun τ a w K hS hA hF => TG.pa hS hA (ldA G56 Z56 rfl rfl (sS 4 rfl hK1116) rfl fin1)) (DG.detA rfl rfl rfl (fun τ a w K hS hA hF => TG.pa hS hA (ldA G117 Z117 rfl rfl (sS 1 rfl hK1135) rfl fin1)) (DG.det (fun τ => τ = []) rfl rfl (.inr (by kernel_rfl)) (fun _ h => by cases h) rfl rfl (fun τ hτ a w K hS hA hF => by subst hτ <;> exact TG.pa hS hA (ld G64 rfl rfl (sS 3 rfl hK1119) rfl fin1)) (DG.det (fun τ => τ = []) rfl rfl (.inr (by kernel_rfl)) (fun _ h => by cases h) rfl rfl (fun τ hτ a w K hS hA hF => by subst hτ <;> exact TG.pa hS hA (lnL U64 rfl rfl fin1)) (DG.turn (α := Nat) 0 (fun b1159 => .slice (some ⟨b1159, 0, none⟩) ((List.replicate requests.length (0 : Int)).length) requests.length) (fun _ _ => True) (fun b1159 => [(1, Own.list (some ⟨b1159, 0, none⟩) requests.length 31 1 (encI .i64) (List.replicate requests.length (0 : Int)))]) rfl (fun _ _ _ _ h => h) (by kernel_rfl) rfl rfl (fun a w K hS hA hF => TG.pa hS hA (mkL 1 (encI .i64) (0 : Int) T4.E59 rfl rfl rfl rfl rfl rfl rfl hk1157 fun b1159 => finT (f := fun b1159 => .slice (some ⟨b1159, 0, none⟩) ((List.replicate requests.length (0 : Int)).length) requests.length) (G := fun _ _ => True) (σ1 := fun b1159 => [(1, Own.list (some ⟨b1159, 0, none⟩) requests.length 31 1 (encI .i64) (List.replicate requests.length (0 : Int)))]) b1159 tv)) fun b1159 => (DG.nil fun K1160 hF => ?_))))))
     obtain ⟨_, _⟩ := hF
     refine bu (cs := [.slice ad10 r_2.words.length cap11, .int .i64 r_2.out, .int .i64 r_2.within, .map b1132, .slice ad1129 r1120.1.swaps.length cap1130, .slice none 0 0, .slice none 0 0, .slice (some ⟨b1159, 0, none⟩) ((List.replicate requests.length (0 : Int)).length) requests.length]) T4.B133 rfl rfl rfl (bO 2 rfl rfl rfl fun b1161 => (a1 rfl (on (sq (rg (a1 rfl (on (sq (sq (rg (ld G64 rfl rfl (sS 3 rfl hK1119) rfl ?_)))))))))))
     refine lnL U64 rfl rfl (m1 rfl (on (TG.nilRow 4 3 1 (TG.as 4 (z := Own.list none 0 3 1 (encI .i64) ([] : List Int)) rfl rfl ?_))))
     obtain ⟨e1195, hl1196, hr1197⟩ := bd_some hr1158
     refine jn (fun a w => ∃ (ad1198 : Option Addr) (cap1199 : Nat), St M W H [K1160, K1134, K1123, K1118, K1115, K1112, K20, K17, K14, H] [(4, Own.list ad1198 cap1199 3 1 (encI .i64) e1195), (2, cel b1161 133 [.slice ad10 r_2.words.length cap11, .int .i64 r_2.out, .int .i64 r_2.within, .map b1132, .slice ad1129 r1120.1.swaps.length cap1130, .slice none 0 0, .slice none 0 0, .slice (some ⟨b1159, 0, none⟩) ((List.replicate requests.length (0 : Int)).length) requests.length]), (1, Own.list (some ⟨b1159, 0, none⟩) requests.length 31 1 (encI .i64) (List.replicate requests.length (0 : Int)))] w ∧ Has [] 106 a [(7, .pointer (some q1117)), (13, .pointer (some (⟨b1161, 0, none⟩))), (14, .slice ad1198 e1195.length cap1199)]) ?_ ?_
     ·refine bk ?_
      refine lp hl1196 (fun s1200 a w => ∃ (ad1201 : Option Addr) (cap1202 : Nat), St M W H [K1160, K1134, K1123, K1118, K1115, K1112, K20, K17, K14, H] [(4, Own.list ad1201 cap1202 3 1 (encI .i64) s1200.2), (2, cel b1161 133 [.slice ad10 r_2.words.length cap11, .int .i64 r_2.out, .int .i64 r_2.within, .map b1132, .slice ad1129 r1120.1.swaps.length cap1130, .slice none 0 0, .slice none 0 0, .slice (some ⟨b1159, 0, none⟩) ((List.replicate requests.length (0 : Int)).length) requests.length]), (1, Own.list (some ⟨b1159, 0, none⟩) requests.length 31 1 (encI .i64) (List.replicate requests.length (0 : Int)))] w ∧ Has [] 106 a [(7, .pointer (some q1117)), (13, .pointer (some (⟨b1161, 0, none⟩))), (14, .slice ad1201 s1200.2.length cap1202), (43, .int .i64 (requests.length : Int)), (44, .int .i64 (s1200.1 : Int))]) ?_ ?_
      ·intro a w hS hA
       exact ⟨none, 0, hS, hA.cut ⟨rfl, rfl, rfl, rfl, rfl, tv⟩⟩
      ·rintro j s1200 y1205 hr1203 hz1204 a w ⟨ad1201, cap1202, hS, hA⟩
       refine TG.ap ?_ hS hA
       unfold m42_1 at hr1203
       refine sq (rg (ltI rfl rfl rfl (on (sq ?_))))
       refine ci rfl (fun hc1209 => ?_) (fun hc1209 => ?_)
       ·have hr1210 := if_p hc1209 hr1203
        refine sk (sq (bk (sq (rg (m1 rfl (a1 rfl (on (rg (m1 rfl (m1 rfl ?_))))))))))
        obtain ⟨hk1216, hr1217⟩ := chk_some hr1210
        have := lenA s1200.2 [(s1200.1 : Int)]
        refine ap1 4 (encI .i64) (l := s1200.2) (s1200.1 : Int) T4.E86 rfl rfl rfl rfl rfl rfl rfl rfl rfl rfl rfl rfl hk1216 fun ad1218 cap1219 u1220 => (a1 rfl (on (rg (adI rfl rfl rfl (by omega) (m1 rfl (on ?_))))))
        cases hr1217
        intro a w hS hA
        exact ⟨_, hz1204, ad1218, cap1219, hS, hA.cut ⟨rfl, rfl, rfl, rfl, rfl, tv⟩⟩
       ·have hr1221 := if_n hc1209 hr1203
        refine xt rfl ?_
        cases hr1221
        obtain rfl := Fin.out hz1204
        intro a w hS hA
        exact ⟨ad1201, cap1202, hS, hA.cut ⟨rfl, rfl, rfl, tv⟩⟩
     ·rintro a w ⟨ad1198, cap1199, hS, hA⟩
      refine TG.ap ?_ hS hA
      refine sq (rg (m1 rfl (fn rfl rfl rfl ?_)))
      obtain ⟨t1889, hx1890, hr1891⟩ := bd_some hr1197
      refine clI C87 Tryz.func87 rfl Tryz.ntmps87 rfl rfl rfl rfl (fun v w => (v = .tuple #[] ∧ St M W H [K1160, K1134, K1123, K1118, K1115, K1112, K20, K17, K14, H] [(4, Own.list ad1198 cap1199 3 1 (encI .i64) t1889), (2, cel b1161 133 [.slice ad10 r_2.words.length cap11, .int .i64 r_2.out, .int .i64 r_2.within, .map b1132, .slice ad1129 r1120.1.swaps.length cap1130, .slice none 0 0, .slice none 0 0, .slice (some ⟨b1159, 0, none⟩) ((List.replicate requests.length (0 : Int)).length) requests.length]), (1, Own.list (some ⟨b1159, 0, none⟩) requests.length 31 1 (encI .i64) (List.replicate requests.length (0 : Int)))] w ∧ t1889.length = e1195.length)) ?_ ?_
      ·refine rg (m1 rfl (m1 rfl (TG.len 4 rfl fun _ => (lnL U86 rfl rfl (m1 rfl ?_)))))
       obtain ⟨t2556, hx2557, hr2558⟩ := bd_some hx1890
       refine clI C112 Tryz.func112 rfl Tryz.ntmps112 rfl rfl rfl rfl (fun v w => (v = .tuple #[] ∧ St M W H [K1160, K1134, K1123, K1118, K1115, K1112, K20, K17, K14, H] [(4, Own.list ad1198 cap1199 3 1 (encI .i64) t2556), (2, cel b1161 133 [.slice ad10 r_2.words.length cap11, .int .i64 r_2.out, .int .i64 r_2.within, .map b1132, .slice ad1129 r1120.1.swaps.length cap1130, .slice none 0 0, .slice none 0 0, .slice (some ⟨b1159, 0, none⟩) ((List.replicate requests.length (0 : Int)).length) requests.length]), (1, Own.list (some ⟨b1159, 0, none⟩) requests.length 31 1 (encI .i64) (List.replicate requests.length (0 : Int)))] w ∧ t2556.length = e1195.length)) ?_ ?_
       ·refine sq (rg (a1 rfl (on (sq (rg (m1 rfl (a1 rfl (a1 rfl (on (sq ?_))))))))))
        obtain ⟨e2994, hl2995, hr2996⟩ := bd_some hx2557
        refine jn (fun a w => St M W H [K1160, K1134, K1123, K1118, K1115, K1112, K20, K17, K14, H] [(4, Own.list ad1198 cap1199 3 1 (encI .i64) e2994.2), (2, cel b1161 133 [.slice ad10 r_2.words.length cap11, .int .i64 r_2.out, .int .i64 r_2.within, .map b1132, .slice ad1129 r1120.1.swaps.length cap1130, .slice none 0 0, .slice none 0 0, .slice (some ⟨b1159, 0, none⟩) ((List.replicate requests.length (0 : Int)).length) requests.length]), (1, Own.list (some ⟨b1159, 0, none⟩) requests.length 31 1 (encI .i64) (List.replicate requests.length (0 : Int)))] w ∧ Has [] 63 a [(0, .slice ad1198 e1195.length cap1199), (1, .int .i64 (e1195.length : Int)), (2, .func (.func 88) [].toArray [.pointer (some q1117)].toArray), (6, .int .i64 20), (7, .int .i64 (e2994.1 : Int))] ∧ e2994.2.length = e1195.length) ?_ ?_
        ·refine bk ?_
         refine lp hl2995 (fun s2998 a w => St M W H [K1160, K1134, K1123, K1118, K1115, K1112, K20, K17, K14, H] [(4, Own.list ad1198 cap1199 3 1 (encI .i64) s2998.2.2), (2, cel b1161 133 [.slice ad10 r_2.words.length cap11, .int .i64 r_2.out, .int .i64 r_2.within, .map b1132, .slice ad1129 r1120.1.swaps.length cap1130, .slice none 0 0, .slice none 0 0, .slice (some ⟨b1159, 0, none⟩) ((List.replicate requests.length (0 : Int)).length) requests.length]), (1, Own.list (some ⟨b1159, 0, none⟩) requests.length 31 1 (encI .i64) (List.replicate requests.length (0 : Int)))] w ∧ Has [] 63 a [(0, .slice ad1198 e1195.length cap1199), (1, .int .i64 (e1195.length : Int)), (2, .func (.func 88) [].toArray [.pointer (some q1117)].toArray), (6, .int .i64 20), (7, .int .i64 (s2998.1 : Int)), (8, .int .i64 (s2998.2.1 : Int))] ∧ s2998.2.2.length = e1195.length) ?_ ?_
         ·intro a w hS hA
          exact ⟨hS, hA.cut ⟨rfl, rfl, rfl, rfl, rfl, rfl, tv⟩, rfl⟩
         ·rintro j s2998 y3002 hr3000 hz3001 a w ⟨hS, hA, hln2999⟩
          refine TG.ap ?_ hS hA
          unfold m42_2 at hr3000
          refine sq (sq (rg (m1 rfl (m1 rfl (leI rfl rfl rfl (on ?_))))))
          refine ci rfl (fun hc3006 => ?_) (fun hc3006 => ?_)
          ·have hr3007 := if_p hc3006 hr3000
           refine sk (bk (sq (rg (m1 rfl (m1 rfl (m1 rfl (m1 rfl ?_)))))))
           obtain ⟨t3426, hx3427, hr3428⟩ := bd_some hr3007
           refine clI C122 Tryz.func122 rfl Tryz.ntmps122 rfl rfl rfl rfl (fun v w => (v = .tuple #[] ∧ St M W H [K1160, K1134, K1123, K1118, K1115, K1112, K20, K17, K14, H] [(4, Own.list ad1198 cap1199 3 1 (encI .i64) t3426), (2, cel b1161 133 [.slice ad10 r_2.words.length cap11, .int .i64 r_2.out, .int .i64 r_2.within, .map b1132, .slice ad1129 r1120.1.swaps.length cap1130, .slice none 0 0, .slice none 0 0, .slice (some ⟨b1159, 0, none⟩) ((List.replicate requests.length (0 : Int)).length) requests.length]), (1, Own.list (some ⟨b1159, 0, none⟩) requests.length 31 1 (encI .i64) (List.replicate requests.length (0 : Int)))] w ∧ t3426.length = e1195.length)) ?_ ?_
           ·refine sq (rg (m1 rfl ?_))
            obtain ⟨hk3430, hr3431⟩ := chk_some hx3427
            refine adI rfl rfl rfl hk3430 (a1 rfl (on ?_))
            obtain ⟨e3634, hl3635, hr3636⟩ := bd_some hr3431
            refine jn (fun a w => St M W H [K1160, K1134, K1123, K1118, K1115, K1112, K20, K17, K14, H] [(4, Own.list ad1198 cap1199 3 1 (encI .i64) e3634), (2, cel b1161 133 [.slice ad10 r_2.words.length cap11, .int .i64 r_2.out, .int .i64 r_2.within, .map b1132, .slice ad1129 r1120.1.swaps.length cap1130, .slice none 0 0, .slice none 0 0, .slice (some ⟨b1159, 0, none⟩) ((List.replicate requests.length (0 : Int)).length) requests.length]), (1, Own.list (some ⟨b1159, 0, none⟩) requests.length 31 1 (encI .i64) (List.replicate requests.length (0 : Int)))] w ∧ Has [] 53 a [] ∧ e3634.length = e1195.length) ?_ ?_
            ·refine bk ?_
             refine lp hl3635 (fun s3638 a w => St M W H [K1160, K1134, K1123, K1118, K1115, K1112, K20, K17, K14, H] [(4, Own.list ad1198 cap1199 3 1 (encI .i64) s3638.2), (2, cel b1161 133 [.slice ad10 r_2.words.length cap11, .int .i64 r_2.out, .int .i64 r_2.within, .map b1132, .slice ad1129 r1120.1.swaps.length cap1130, .slice none 0 0, .slice none 0 0, .slice (some ⟨b1159, 0, none⟩) ((List.replicate requests.length (0 : Int)).length) requests.length]), (1, Own.list (some ⟨b1159, 0, none⟩) requests.length 31 1 (encI .i64) (List.replicate requests.length (0 : Int)))] w ∧ Has [] 53 a [(0, .slice ad1198 e1195.length cap1199), (1, .int .i64 (s2998.1 : Int)), (2, .int .i64 (s2998.2.1 : Int)), (3, .func (.func 88) [].toArray [.pointer (some q1117)].toArray), (8, .int .i64 (s3638.1 : Int))] ∧ s3638.2.length = e1195.length) ?_ ?_
             ·intro a w hS hA
              exact ⟨hS, hA.cut ⟨rfl, rfl, rfl, rfl, rfl, tv⟩, hln2999⟩
             ·rintro j s3638 y3642 hr3640 hz3641 a w ⟨hS, hA, hln3639⟩
              refine TG.ap ?_ hS hA
              unfold m42_3 at hr3640
              refine sq (sq (rg (m1 rfl (m1 rfl (ltI rfl rfl rfl (on ?_))))))
              refine ci rfl (fun hc3646 => ?_) (fun hc3646 => ?_)
              ·have hr3647 := if_p hc3646 hr3640
               refine sk (sq (bk (sq (rg (m1 rfl (a1 rfl (on ?_)))))))
               obtain ⟨e3834, hl3835, hr3836⟩ := bd_some hr3647
               refine jn (fun a w => St M W H [K1160, K1134, K1123, K1118, K1115, K1112, K20, K17, K14, H] [(4, Own.list ad1198 cap1199 3 1 (encI .i64) e3834), (2, cel b1161 133 [.slice ad10 r_2.words.length cap11, .int .i64 r_2.out, .int .i64 r_2.within, .map b1132, .slice ad1129 r1120.1.swaps.length cap1130, .slice none 0 0, .slice none 0 0, .slice (some ⟨b1159, 0, none⟩) ((List.replicate requests.length (0 : Int)).length) requests.length]), (1, Own.list (some ⟨b1159, 0, none⟩) requests.length 31 1 (encI .i64) (List.replicate requests.length (0 : Int)))] w ∧ Has [] 53 a [(0, .slice ad1198 e1195.length cap1199), (1, .int .i64 (s2998.1 : Int)), (2, .int .i64 (s2998.2.1 : Int)), (3, .func (.func 88) [].toArray [.pointer (some q1117)].toArray), (8, .int .i64 (s3638.1 : Int))] ∧ e3834.length = e1195.length) ?_ ?_
               ·refine bk ?_
                refine lp hl3835 (fun s3838 a w => St M W H [K1160, K1134, K1123, K1118, K1115, K1112, K20, K17, K14, H] [(4, Own.list ad1198 cap1199 3 1 (encI .i64) s3838.2), (2, cel b1161 133 [.slice ad10 r_2.words.length cap11, .int .i64 r_2.out, .int .i64 r_2.within, .map b1132, .slice ad1129 r1120.1.swaps.length cap1130, .slice none 0 0, .slice none 0 0, .slice (some ⟨b1159, 0, none⟩) ((List.replicate requests.length (0 : Int)).length) requests.length]), (1, Own.list (some ⟨b1159, 0, none⟩) requests.length 31 1 (encI .i64) (List.replicate requests.length (0 : Int)))] w ∧ Has [] 53 a [(0, .slice ad1198 e1195.length cap1199), (1, .int .i64 (s2998.1 : Int)), (2, .int .i64 (s2998.2.1 : Int)), (3, .func (.func 88) [].toArray [.pointer (some q1117)].toArray), (8, .int .i64 (s3638.1 : Int)), (9, .int .i64 s3838.1)] ∧ s3838.2.length = e1195.length) ?_ ?_
                ·intro a w hS hA
                 exact ⟨hS, hA.cut ⟨rfl, rfl, rfl, rfl, rfl, rfl, tv⟩, hln3639⟩
                ·rintro j s3838 y3842 hr3840 hz3841 a w ⟨hS, hA, hln3839⟩
                 refine TG.ap ?_ hS hA
                 unfold m42_4 at hr3840
                 refine sq (sq ?_)
                 obtain ⟨t3864, hx3865, hr3866⟩ := bd_some hr3840
                 refine jn (fun a w => St M W H [K1160, K1134, K1123, K1118, K1115, K1112, K20, K17, K14, H] [(4, Own.list ad1198 cap1199 3 1 (encI .i64) s3838.2), (2, cel b1161 133 [.slice ad10 r_2.words.length cap11, .int .i64 r_2.out, .int .i64 r_2.within, .map b1132, .slice ad1129 r1120.1.swaps.length cap1130, .slice none 0 0, .slice none 0 0, .slice (some ⟨b1159, 0, none⟩) ((List.replicate requests.length (0 : Int)).length) requests.length]), (1, Own.list (some ⟨b1159, 0, none⟩) requests.length 31 1 (encI .i64) (List.replicate requests.length (0 : Int)))] w ∧ Has [] 53 a [(0, .slice ad1198 e1195.length cap1199), (1, .int .i64 (s2998.1 : Int)), (2, .int .i64 (s2998.2.1 : Int)), (3, .func (.func 88) [].toArray [.pointer (some q1117)].toArray), (8, .int .i64 (s3638.1 : Int)), (9, .int .i64 s3838.1), (34, .bool t3864)]) ?_ ?_
                 ·by_cases hb3867 : (s2998.1 : Int) < s3838.1
                  ·have hr3868 := if_p hb3867 hx3865
                   obtain ⟨hk3869, hr3870⟩ := chk_some hr3868
                   obtain ⟨x3871, hx3872, hr3873⟩ := bd_some hr3870
                   refine TG.addr 4 rfl (lt_of0 hx3872) fun b3874 h => ?_; subst h
                   obtain ⟨hk3875, hr3876⟩ := chk_some hr3873
                   obtain ⟨hk3877, hr3878⟩ := chk_some hr3876
                   obtain ⟨x3879, hx3880, hr3881⟩ := bd_some hr3878
                   refine drG 14 mixed (by kernel_rfl) rfl (dt rfl (m1 rfl fin1) (dt rfl (m1 rfl fin1) (dt rfl (gtI rfl rfl rfl fin1) (dt rfl (m1 rfl fin1) (dt rfl (gt hb3867 rfl (m1 rfl fin1)) (dt rfl (gt hb3867 rfl (m1 rfl fin1)) (dt rfl (gt hb3867 rfl (m1 rfl fin1)) (dt rfl (gt hb3867 rfl (iaP U86 Z3 rfl rfl rfl (by omega) (Nat.lt_of_lt_of_eq (lt_of hx3872) hln3839) fin1)) (dt rfl (gt hb3867 rfl (ld G3 rfl rfl (sE 4 rfl (fun _ => rfl) hx3872) rfl fin1)) (dt rfl (gt hb3867 rfl (m1 rfl fin1)) (dt rfl (gt hb3867 rfl (m1 rfl fin1)) ?_)))))))))))
                   refine dt rfl (gt hb3867 rfl (sbI rfl rfl rfl hk3875 fin1)) (dt rfl (gt hb3867 rfl (iaP U86 Z3 rfl rfl rfl (by omega) (Nat.lt_of_lt_of_eq (lt_of hx3880) hln3839) fin1)) (dt rfl (gt hb3867 rfl (ld G3 rfl rfl (sE 4 rfl (fun _ => rfl) hx3880) rfl fin1)) (DF.nil fun K3882 hF => (gt hb3867 rfl ?_))))
                   obtain ⟨r3883, hx3884, hr3885⟩ := bd_some hr3881
                   refine clS C88 rfl rfl rfl rfl (fun w H hH le => w88 hH x3871 x3879 (f0_ := requests) (hK1119.mono (le.at 4 rfl)) (h_requests.mono (RRequest.mono) (le.at 10 rfl)) hx3884) (gt hb3867 rfl (ltI rfl rfl rfl (pt hb3867 rfl rfl (on ?_))))
                   cases hr3885
                   intro a w hS hA
                   exact ⟨hS.selH [1, 2, 3, 4, 5, 6, 7, 8, 9, 10] rfl, hA.cut ⟨rfl, rfl, rfl, rfl, rfl, rfl, rfl, tv⟩⟩
                  ·have hr3886 := if_n hb3867 hx3865
                   refine drG 14 mixed (by kernel_rfl) rfl (dt rfl (m1 rfl fin1) (dt rfl (m1 rfl fin1) (dt rfl (gtI rfl rfl rfl fin1) (dt rfl (m1 rfl fin1) (dt rfl (gf hb3867 rfl fin1) (dt rfl (gf hb3867 rfl fin1) (dt rfl (gf hb3867 rfl fin1) (dt rfl (gf hb3867 rfl fin1) (dt rfl (gf hb3867 rfl fin1) (dt rfl (gf hb3867 rfl fin1) (dt rfl (gf hb3867 rfl fin1) ?_)))))))))))
                   refine dt rfl (gf hb3867 rfl fin1) (dt rfl (gf hb3867 rfl fin1) (dt rfl (gf hb3867 rfl fin1) (DF.nil fun K3887 hF => (gf hb3867 rfl (gf hb3867 rfl (pf hb3867 rfl rfl (on ?_)))))))
                   cases hr3886
                   intro a w hS hA
                   exact ⟨hS.selH [1, 2, 3, 4, 5, 6, 7, 8, 9, 10] rfl, hA.cut ⟨rfl, rfl, rfl, rfl, rfl, rfl, rfl, tv⟩⟩
                 ·rintro a w ⟨hS, hA⟩
                  refine TG.ap ?_ hS hA
                  refine cb rfl (fun hc3891 => ?_) (fun hc3891 => ?_)
                  ·have hr3892 := if_p hc3891 hr3866
                   refine sk (sq (bk ?_))
                   obtain ⟨hk3912, hr3913⟩ := chk_some hr3892
                   obtain ⟨hk3914, hr3915⟩ := chk_some hr3913
                   obtain ⟨x3916, hx3917, hr3918⟩ := bd_some hr3915
                   refine TG.addr 4 rfl (lt_of0 hx3917) fun b3919 h => ?_; subst h
                   obtain ⟨hk3920, hr3921⟩ := chk_some hr3918
                   obtain ⟨x3922, hx3923, hr3924⟩ := bd_some hr3921
                   refine drG3 14 [] [(2, 39, .slice (some ⟨b3919, 0, none⟩) e1195.length cap1199), (3, 40, .int .i64 s3838.1), (4, 41, .int .i64 (s3838.1 - 1))] mixed (fun _ _ _ _ _ h => h) (by kernel_rfl) (by kernel_rfl) (by kernel_rfl) rfl (by kernel_rfl) (.cons rfl rfl rfl (fun _ => rfl) (by kernel_rfl) (by kernel_rfl) (fun _ _ => rfl) (mvY rfl) (.cons rfl rfl rfl (fun _ => rfl) (by kernel_rfl) (by kernel_rfl) (fun _ _ => rfl) (mvY rfl) (.cons rfl rfl rfl (fun _ => rfl) (by kernel_rfl) (by kernel_rfl) (fun _ _ => rfl) (sbIY rfl rfl hk3912) (.nil)))) (dc rfl (by kernel_rfl) tv rfl rfl (m1 rfl fin1) (dc rfl (by kernel_rfl) tv rfl rfl (m1 rfl fin1) (DC.pre (.head _) rfl (DC.pre (.tail _ (.head _)) rfl (DC.pre (.tail _ (.tail _ (.head _))) rfl (dc rfl (by kernel_rfl) tv rfl rfl (m1 rfl fin1) (dc rfl (by kernel_rfl) tv rfl rfl (m1 rfl fin1) (dc rfl (by kernel_rfl) tv rfl rfl (sbI rfl rfl rfl hk3912 fin1) (dc rfl (by kernel_rfl) tv rfl rfl (iaP U86 Z3 rfl rfl rfl (by omega) (Nat.lt_of_lt_of_eq (lt_of hx3917) hln3839) fin1) (dc rfl (by kernel_rfl) tv rfl rfl (ld G3 rfl rfl (sE 4 rfl (fun _ => rfl) hx3917) rfl fin1) (dc rfl (by kernel_rfl) tv rfl rfl (m1 rfl fin1) ?_)))))))))))
                   refine dc rfl (by kernel_rfl) tv rfl rfl (m1 rfl fin1) (dc rfl (by kernel_rfl) tv rfl rfl (iaP U86 Z3 rfl rfl rfl (by omega) (Nat.lt_of_lt_of_eq (lt_of hx3923) hln3839) fin1) (dc rfl (by kernel_rfl) tv rfl rfl (ld G3 rfl rfl (sE 4 rfl (fun _ => rfl) hx3923) rfl fin1) (DC.nil fun K3925 hF => (iaP U86 Z3 rfl rfl rfl (by omega) (Nat.lt_of_lt_of_eq (lt_of hx3923) hln3839) ?_))))
                   have hln3926 : (s3838.2.set s3838.1.toNat x3916).length = e1195.length := (lenS _ _ _).trans hln3839
                   refine stE 4 x3916 (q := ⟨b3919, 0, none⟩) (j := s3838.1.toNat) (size := 1) (cs := [.int .i64 x3916]) (off := 0) Z3 rfl rfl rfl (fun _ => rfl) hx3923 rfl rfl rfl rfl rfl ?_
                   obtain ⟨x3927, hx3928, hr3929⟩ := bd_some hr3924
                   refine iaP U86 Z3 rfl rfl rfl (by omega) (Nat.lt_of_lt_of_eq (lt_of hx3928) hln3926) ?_
                   have hln3930 : ((s3838.2.set s3838.1.toNat x3916).set ((s3838.1 - 1).toNat) x3922).length = e1195.length := (lenS _ _ _).trans hln3926
                   refine stE 4 x3922 (q := ⟨b3919, 0, none⟩) (j := (s3838.1 - 1).toNat) (size := 1) (cs := [.int .i64 x3922]) (off := 0) Z3 rfl rfl rfl (fun _ => rfl) hx3928 rfl rfl rfl rfl rfl (on (rg (m1 rfl (sbI rfl rfl rfl hk3912 (a1 rfl (on ?_))))))
                   cases hr3929
                   intro a w hS hA
                   exact ⟨_, hz3841, hS.selH [1, 2, 3, 4, 5, 6, 7, 8, 9, 10] rfl, hA.cut ⟨rfl, rfl, rfl, rfl, rfl, rfl, tv⟩, hln3930⟩
                  ·have hr3931 := if_f hc3891 hr3866
                   refine xt rfl ?_
                   cases hr3931
                   obtain rfl := Fin.out hz3841
                   intro a w hS hA
                   exact ⟨hS, hA.cut ⟨rfl, rfl, rfl, rfl, rfl, tv⟩, hln3839⟩
               ·rintro a w ⟨hS, hA, hln3837⟩
                refine TG.ap ?_ hS hA
                refine rg (m1 rfl ?_)
                obtain ⟨hk3932, hr3933⟩ := chk_some hr3836
                refine adI rfl rfl rfl hk3932 (a1 rfl (on ?_))
                cases hr3933
                intro a w hS hA
                exact ⟨_, hz3641, hS, hA.cut ⟨rfl, rfl, rfl, rfl, rfl, tv⟩, hln3837⟩
              ·have hr3934 := if_n hc3646 hr3640
               refine xt rfl ?_
               cases hr3934
               obtain rfl := Fin.out hz3641
               intro a w hS hA
               exact ⟨hS, hA.cut tv, hln3639⟩
            ·rintro a w ⟨hS, hA, hln3637⟩
             refine TG.ap ?_ hS hA
             cases hr3636
             intro a w hS hA
             refine ret0 hA rfl ?_
             exact ⟨_, rfl, ⟨rfl, hS, hln3637⟩⟩
           ·rintro a w v hA (⟨rfl, hS, hln3429⟩)
            refine putK rfl hA hS (on (sq (rg (m1 rfl (a1 rfl (on (rg (m1 rfl (m1 rfl ?_)))))))))
            obtain ⟨hk3935, hr3936⟩ := chk_some hr3428
            refine adI rfl rfl rfl hk3935 (a1 rfl (on ?_))
            cases hr3936
            intro a w hS hA
            exact ⟨_, hz3001, hS, hA.cut ⟨rfl, rfl, rfl, rfl, rfl, rfl, tv⟩, hln3429⟩
          ·have hr3937 := if_n hc3006 hr3000
           refine xt rfl ?_
           cases hr3937
           obtain rfl := Fin.out hz3001
           intro a w hS hA
           exact ⟨hS, hA.cut ⟨rfl, rfl, rfl, rfl, rfl, tv⟩, hln2999⟩
        ·rintro a w ⟨hS, hA, hln2997⟩
         refine TG.ap ?_ hS hA
         refine sq (rg (m1 rfl (m1 rfl (m1 rfl (m1 rfl ?_)))))
         obtain ⟨t4140, hx4141, hr4142⟩ := bd_some hr2996
         refine clI C122 Tryz.func122 rfl Tryz.ntmps122 rfl rfl rfl rfl (fun v w => (v = .tuple #[] ∧ St M W H [K1160, K1134, K1123, K1118, K1115, K1112, K20, K17, K14, H] [(4, Own.list ad1198 cap1199 3 1 (encI .i64) t4140), (2, cel b1161 133 [.slice ad10 r_2.words.length cap11, .int .i64 r_2.out, .int .i64 r_2.within, .map b1132, .slice ad1129 r1120.1.swaps.length cap1130, .slice none 0 0, .slice none 0 0, .slice (some ⟨b1159, 0, none⟩) ((List.replicate requests.length (0 : Int)).length) requests.length]), (1, Own.list (some ⟨b1159, 0, none⟩) requests.length 31 1 (encI .i64) (List.replicate requests.length (0 : Int)))] w ∧ t4140.length = e1195.length)) ?_ ?_
         ·refine sq (rg (m1 rfl ?_))
          obtain ⟨hk4144, hr4145⟩ := chk_some hx4141
          refine adI rfl rfl rfl hk4144 (a1 rfl (on ?_))
          obtain ⟨e4344, hl4345, hr4346⟩ := bd_some hr4145
          refine jn (fun a w => St M W H [K1160, K1134, K1123, K1118, K1115, K1112, K20, K17, K14, H] [(4, Own.list ad1198 cap1199 3 1 (encI .i64) e4344), (2, cel b1161 133 [.slice ad10 r_2.words.length cap11, .int .i64 r_2.out, .int .i64 r_2.within, .map b1132, .slice ad1129 r1120.1.swaps.length cap1130, .slice none 0 0, .slice none 0 0, .slice (some ⟨b1159, 0, none⟩) ((List.replicate requests.length (0 : Int)).length) requests.length]), (1, Own.list (some ⟨b1159, 0, none⟩) requests.length 31 1 (encI .i64) (List.replicate requests.length (0 : Int)))] w ∧ Has [] 53 a [] ∧ e4344.length = e1195.length) ?_ ?_
          ·refine bk ?_
           refine lp hl4345 (fun s4348 a w => St M W H [K1160, K1134, K1123, K1118, K1115, K1112, K20, K17, K14, H] [(4, Own.list ad1198 cap1199 3 1 (encI .i64) s4348.2), (2, cel b1161 133 [.slice ad10 r_2.words.length cap11, .int .i64 r_2.out, .int .i64 r_2.within, .map b1132, .slice ad1129 r1120.1.swaps.length cap1130, .slice none 0 0, .slice none 0 0, .slice (some ⟨b1159, 0, none⟩) ((List.replicate requests.length (0 : Int)).length) requests.length]), (1, Own.list (some ⟨b1159, 0, none⟩) requests.length 31 1 (encI .i64) (List.replicate requests.length (0 : Int)))] w ∧ Has [] 53 a [(0, .slice ad1198 e1195.length cap1199), (1, .int .i64 (e2994.1 : Int)), (2, .int .i64 (e1195.length : Int)), (3, .func (.func 88) [].toArray [.pointer (some q1117)].toArray), (8, .int .i64 (s4348.1 : Int))] ∧ s4348.2.length = e1195.length) ?_ ?_
           ·intro a w hS hA
            exact ⟨hS, hA.cut ⟨rfl, rfl, rfl, rfl, rfl, tv⟩, hln2997⟩
           ·rintro j s4348 y4352 hr4350 hz4351 a w ⟨hS, hA, hln4349⟩
            refine TG.ap ?_ hS hA
            unfold m42_5 at hr4350
            refine sq (sq (rg (m1 rfl (m1 rfl (ltI rfl rfl rfl (on ?_))))))
            refine ci rfl (fun hc4356 => ?_) (fun hc4356 => ?_)
            ·have hr4357 := if_p hc4356 hr4350
             refine sk (sq (bk (sq (rg (m1 rfl (a1 rfl (on ?_)))))))
             obtain ⟨e4544, hl4545, hr4546⟩ := bd_some hr4357
             refine jn (fun a w => St M W H [K1160, K1134, K1123, K1118, K1115, K1112, K20, K17, K14, H] [(4, Own.list ad1198 cap1199 3 1 (encI .i64) e4544), (2, cel b1161 133 [.slice ad10 r_2.words.length cap11, .int .i64 r_2.out, .int .i64 r_2.within, .map b1132, .slice ad1129 r1120.1.swaps.length cap1130, .slice none 0 0, .slice none 0 0, .slice (some ⟨b1159, 0, none⟩) ((List.replicate requests.length (0 : Int)).length) requests.length]), (1, Own.list (some ⟨b1159, 0, none⟩) requests.length 31 1 (encI .i64) (List.replicate requests.length (0 : Int)))] w ∧ Has [] 53 a [(0, .slice ad1198 e1195.length cap1199), (1, .int .i64 (e2994.1 : Int)), (2, .int .i64 (e1195.length : Int)), (3, .func (.func 88) [].toArray [.pointer (some q1117)].toArray), (8, .int .i64 (s4348.1 : Int))] ∧ e4544.length = e1195.length) ?_ ?_
             ·refine bk ?_
              refine lp hl4545 (fun s4548 a w => St M W H [K1160, K1134, K1123, K1118, K1115, K1112, K20, K17, K14, H] [(4, Own.list ad1198 cap1199 3 1 (encI .i64) s4548.2), (2, cel b1161 133 [.slice ad10 r_2.words.length cap11, .int .i64 r_2.out, .int .i64 r_2.within, .map b1132, .slice ad1129 r1120.1.swaps.length cap1130, .slice none 0 0, .slice none 0 0, .slice (some ⟨b1159, 0, none⟩) ((List.replicate requests.length (0 : Int)).length) requests.length]), (1, Own.list (some ⟨b1159, 0, none⟩) requests.length 31 1 (encI .i64) (List.replicate requests.length (0 : Int)))] w ∧ Has [] 53 a [(0, .slice ad1198 e1195.length cap1199), (1, .int .i64 (e2994.1 : Int)), (2, .int .i64 (e1195.length : Int)), (3, .func (.func 88) [].toArray [.pointer (some q1117)].toArray), (8, .int .i64 (s4348.1 : Int)), (9, .int .i64 s4548.1)] ∧ s4548.2.length = e1195.length) ?_ ?_
              ·intro a w hS hA
               exact ⟨hS, hA.cut ⟨rfl, rfl, rfl, rfl, rfl, rfl, tv⟩, hln4349⟩
              ·rintro j s4548 y4552 hr4550 hz4551 a w ⟨hS, hA, hln4549⟩
               refine TG.ap ?_ hS hA
               unfold m42_6 at hr4550
               refine sq (sq ?_)
               obtain ⟨t4574, hx4575, hr4576⟩ := bd_some hr4550
               refine jn (fun a w => St M W H [K1160, K1134, K1123, K1118, K1115, K1112, K20, K17, K14, H] [(4, Own.list ad1198 cap1199 3 1 (encI .i64) s4548.2), (2, cel b1161 133 [.slice ad10 r_2.words.length cap11, .int .i64 r_2.out, .int .i64 r_2.within, .map b1132, .slice ad1129 r1120.1.swaps.length cap1130, .slice none 0 0, .slice none 0 0, .slice (some ⟨b1159, 0, none⟩) ((List.replicate requests.length (0 : Int)).length) requests.length]), (1, Own.list (some ⟨b1159, 0, none⟩) requests.length 31 1 (encI .i64) (List.replicate requests.length (0 : Int)))] w ∧ Has [] 53 a [(0, .slice ad1198 e1195.length cap1199), (1, .int .i64 (e2994.1 : Int)), (2, .int .i64 (e1195.length : Int)), (3, .func (.func 88) [].toArray [.pointer (some q1117)].toArray), (8, .int .i64 (s4348.1 : Int)), (9, .int .i64 s4548.1), (34, .bool t4574)]) ?_ ?_
               ·by_cases hb4577 : (e2994.1 : Int) < s4548.1
                ·have hr4578 := if_p hb4577 hx4575
                 obtain ⟨hk4579, hr4580⟩ := chk_some hr4578
                 obtain ⟨x4581, hx4582, hr4583⟩ := bd_some hr4580
                 refine TG.addr 4 rfl (lt_of0 hx4582) fun b4584 h => ?_; subst h
                 obtain ⟨hk4585, hr4586⟩ := chk_some hr4583
                 obtain ⟨hk4587, hr4588⟩ := chk_some hr4586
                 obtain ⟨x4589, hx4590, hr4591⟩ := bd_some hr4588
                 refine drG 14 mixed (by kernel_rfl) rfl (dt rfl (m1 rfl fin1) (dt rfl (m1 rfl fin1) (dt rfl (gtI rfl rfl rfl fin1) (dt rfl (m1 rfl fin1) (dt rfl (gt hb4577 rfl (m1 rfl fin1)) (dt rfl (gt hb4577 rfl (m1 rfl fin1)) (dt rfl (gt hb4577 rfl (m1 rfl fin1)) (dt rfl (gt hb4577 rfl (iaP U86 Z3 rfl rfl rfl (by omega) (Nat.lt_of_lt_of_eq (lt_of hx4582) hln4549) fin1)) (dt rfl (gt hb4577 rfl (ld G3 rfl rfl (sE 4 rfl (fun _ => rfl) hx4582) rfl fin1)) (dt rfl (gt hb4577 rfl (m1 rfl fin1)) (dt rfl (gt hb4577 rfl (m1 rfl fin1)) ?_)))))))))))
                 refine dt rfl (gt hb4577 rfl (sbI rfl rfl rfl hk4585 fin1)) (dt rfl (gt hb4577 rfl (iaP U86 Z3 rfl rfl rfl (by omega) (Nat.lt_of_lt_of_eq (lt_of hx4590) hln4549) fin1)) (dt rfl (gt hb4577 rfl (ld G3 rfl rfl (sE 4 rfl (fun _ => rfl) hx4590) rfl fin1)) (DF.nil fun K4592 hF => (gt hb4577 rfl ?_))))
                 obtain ⟨r4593, hx4594, hr4595⟩ := bd_some hr4591
                 refine clS C88 rfl rfl rfl rfl (fun w H hH le => w88 hH x4581 x4589 (f0_ := requests) (hK1119.mono (le.at 4 rfl)) (h_requests.mono (RRequest.mono) (le.at 10 rfl)) hx4594) (gt hb4577 rfl (ltI rfl rfl rfl (pt hb4577 rfl rfl (on ?_))))
                 cases hr4595
                 intro a w hS hA
                 exact ⟨hS.selH [1, 2, 3, 4, 5, 6, 7, 8, 9, 10] rfl, hA.cut ⟨rfl, rfl, rfl, rfl, rfl, rfl, rfl, tv⟩⟩
                ·have hr4596 := if_n hb4577 hx4575
                 refine drG 14 mixed (by kernel_rfl) rfl (dt rfl (m1 rfl fin1) (dt rfl (m1 rfl fin1) (dt rfl (gtI rfl rfl rfl fin1) (dt rfl (m1 rfl fin1) (dt rfl (gf hb4577 rfl fin1) (dt rfl (gf hb4577 rfl fin1) (dt rfl (gf hb4577 rfl fin1) (dt rfl (gf hb4577 rfl fin1) (dt rfl (gf hb4577 rfl fin1) (dt rfl (gf hb4577 rfl fin1) (dt rfl (gf hb4577 rfl fin1) ?_)))))))))))
                 refine dt rfl (gf hb4577 rfl fin1) (dt rfl (gf hb4577 rfl fin1) (dt rfl (gf hb4577 rfl fin1) (DF.nil fun K4597 hF => (gf hb4577 rfl (gf hb4577 rfl (pf hb4577 rfl rfl (on ?_)))))))
                 cases hr4596
                 intro a w hS hA
                 exact ⟨hS.selH [1, 2, 3, 4, 5, 6, 7, 8, 9, 10] rfl, hA.cut ⟨rfl, rfl, rfl, rfl, rfl, rfl, rfl, tv⟩⟩
               ·rintro a w ⟨hS, hA⟩
                refine TG.ap ?_ hS hA
                refine cb rfl (fun hc4601 => ?_) (fun hc4601 => ?_)
                ·have hr4602 := if_p hc4601 hr4576
                 refine sk (sq (bk ?_))
                 obtain ⟨hk4622, hr4623⟩ := chk_some hr4602
                 obtain ⟨hk4624, hr4625⟩ := chk_some hr4623
                 obtain ⟨x4626, hx4627, hr4628⟩ := bd_some hr4625
                 refine TG.addr 4 rfl (lt_of0 hx4627) fun b4629 h => ?_; subst h
                 obtain ⟨hk4630, hr4631⟩ := chk_some hr4628
                 obtain ⟨x4632, hx4633, hr4634⟩ := bd_some hr4631
                 refine drG3 14 [] [(2, 39, .slice (some ⟨b4629, 0, none⟩) e1195.length cap1199), (3, 40, .int .i64 s4548.1), (4, 41, .int .i64 (s4548.1 - 1))] mixed (fun _ _ _ _ _ h => h) (by kernel_rfl) (by kernel_rfl) (by kernel_rfl) rfl (by kernel_rfl) (.cons rfl rfl rfl (fun _ => rfl) (by kernel_rfl) (by kernel_rfl) (fun _ _ => rfl) (mvY rfl) (.cons rfl rfl rfl (fun _ => rfl) (by kernel_rfl) (by kernel_rfl) (fun _ _ => rfl) (mvY rfl) (.cons rfl rfl rfl (fun _ => rfl) (by kernel_rfl) (by kernel_rfl) (fun _ _ => rfl) (sbIY rfl rfl hk4622) (.nil)))) (dc rfl (by kernel_rfl) tv rfl rfl (m1 rfl fin1) (dc rfl (by kernel_rfl) tv rfl rfl (m1 rfl fin1) (DC.pre (.head _) rfl (DC.pre (.tail _ (.head _)) rfl (DC.pre (.tail _ (.tail _ (.head _))) rfl (dc rfl (by kernel_rfl) tv rfl rfl (m1 rfl fin1) (dc rfl (by kernel_rfl) tv rfl rfl (m1 rfl fin1) (dc rfl (by kernel_rfl) tv rfl rfl (sbI rfl rfl rfl hk4622 fin1) (dc rfl (by kernel_rfl) tv rfl rfl (iaP U86 Z3 rfl rfl rfl (by omega) (Nat.lt_of_lt_of_eq (lt_of hx4627) hln4549) fin1) (dc rfl (by kernel_rfl) tv rfl rfl (ld G3 rfl rfl (sE 4 rfl (fun _ => rfl) hx4627) rfl fin1) (dc rfl (by kernel_rfl) tv rfl rfl (m1 rfl fin1) ?_)))))))))))
                 refine dc rfl (by kernel_rfl) tv rfl rfl (m1 rfl fin1) (dc rfl (by kernel_rfl) tv rfl rfl (iaP U86 Z3 rfl rfl rfl (by omega) (Nat.lt_of_lt_of_eq (lt_of hx4633) hln4549) fin1) (dc rfl (by kernel_rfl) tv rfl rfl (ld G3 rfl rfl (sE 4 rfl (fun _ => rfl) hx4633) rfl fin1) (DC.nil fun K4635 hF => (iaP U86 Z3 rfl rfl rfl (by omega) (Nat.lt_of_lt_of_eq (lt_of hx4633) hln4549) ?_))))
                 have hln4636 : (s4548.2.set s4548.1.toNat x4626).length = e1195.length := (lenS _ _ _).trans hln4549
                 refine stE 4 x4626 (q := ⟨b4629, 0, none⟩) (j := s4548.1.toNat) (size := 1) (cs := [.int .i64 x4626]) (off := 0) Z3 rfl rfl rfl (fun _ => rfl) hx4633 rfl rfl rfl rfl rfl ?_
                 obtain ⟨x4637, hx4638, hr4639⟩ := bd_some hr4634
                 refine iaP U86 Z3 rfl rfl rfl (by omega) (Nat.lt_of_lt_of_eq (lt_of hx4638) hln4636) ?_
                 have hln4640 : ((s4548.2.set s4548.1.toNat x4626).set ((s4548.1 - 1).toNat) x4632).length = e1195.length := (lenS _ _ _).trans hln4636
                 refine stE 4 x4632 (q := ⟨b4629, 0, none⟩) (j := (s4548.1 - 1).toNat) (size := 1) (cs := [.int .i64 x4632]) (off := 0) Z3 rfl rfl rfl (fun _ => rfl) hx4638 rfl rfl rfl rfl rfl (on (rg (m1 rfl (sbI rfl rfl rfl hk4622 (a1 rfl (on ?_))))))
                 cases hr4639
                 intro a w hS hA
                 exact ⟨_, hz4551, hS.selH [1, 2, 3, 4, 5, 6, 7, 8, 9, 10] rfl, hA.cut ⟨rfl, rfl, rfl, rfl, rfl, rfl, tv⟩, hln4640⟩
                ·have hr4641 := if_f hc4601 hr4576
                 refine xt rfl ?_
                 cases hr4641
                 obtain rfl := Fin.out hz4551
                 intro a w hS hA
                 exact ⟨hS, hA.cut ⟨rfl, rfl, rfl, rfl, rfl, tv⟩, hln4549⟩
             ·rintro a w ⟨hS, hA, hln4547⟩
              refine TG.ap ?_ hS hA
              refine rg (m1 rfl (adI rfl rfl rfl (by omega) (a1 rfl (on ?_))))
              cases hr4546
              intro a w hS hA
              exact ⟨_, hz4351, hS, hA.cut ⟨rfl, rfl, rfl, rfl, rfl, tv⟩, hln4547⟩
            ·have hr4642 := if_n hc4356 hr4350
             refine xt rfl ?_
             cases hr4642
             obtain rfl := Fin.out hz4351
             intro a w hS hA
             exact ⟨hS, hA.cut tv, hln4349⟩
          ·rintro a w ⟨hS, hA, hln4347⟩
           refine TG.ap ?_ hS hA
           cases hr4346
           intro a w hS hA
           refine ret0 hA rfl ?_
           exact ⟨_, rfl, ⟨rfl, hS, hln4347⟩⟩
         ·rintro a w v hA (⟨rfl, hS, hln4143⟩)
          refine putK rfl hA hS (on ?_)
          obtain ⟨e4663, hl4664, hr4665⟩ := bd_some hr4142
          refine jn (fun a w => St M W H [K1160, K1134, K1123, K1118, K1115, K1112, K20, K17, K14, H] [(4, Own.list ad1198 cap1199 3 1 (encI .i64) t4140), (2, cel b1161 133 [.slice ad10 r_2.words.length cap11, .int .i64 r_2.out, .int .i64 r_2.within, .map b1132, .slice ad1129 r1120.1.swaps.length cap1130, .slice none 0 0, .slice none 0 0, .slice (some ⟨b1159, 0, none⟩) ((List.replicate requests.length (0 : Int)).length) requests.length]), (1, Own.list (some ⟨b1159, 0, none⟩) requests.length 31 1 (encI .i64) (List.replicate requests.length (0 : Int)))] w ∧ Has [] 63 a []) ?_ ?_
          ·refine bk ?_
           refine lp hl4664 (fun s4666 a w => St M W H [K1160, K1134, K1123, K1118, K1115, K1112, K20, K17, K14, H] [(4, Own.list ad1198 cap1199 3 1 (encI .i64) t4140), (2, cel b1161 133 [.slice ad10 r_2.words.length cap11, .int .i64 r_2.out, .int .i64 r_2.within, .map b1132, .slice ad1129 r1120.1.swaps.length cap1130, .slice none 0 0, .slice none 0 0, .slice (some ⟨b1159, 0, none⟩) ((List.replicate requests.length (0 : Int)).length) requests.length]), (1, Own.list (some ⟨b1159, 0, none⟩) requests.length 31 1 (encI .i64) (List.replicate requests.length (0 : Int)))] w ∧ Has [] 63 a [(0, .slice ad1198 e1195.length cap1199), (1, .int .i64 (e1195.length : Int)), (2, .func (.func 88) [].toArray [.pointer (some q1117)].toArray), (6, .int .i64 s4666)]) ?_ ?_
           ·exact cu ⟨rfl, rfl, rfl, rfl, tv⟩
           ·rintro j s4666 y4669 hr4667 hz4668 a w ⟨hS, hA⟩
            refine TG.ap ?_ hS hA
            unfold m42_7 at hr4667
            refine sq (sq (rg (m1 rfl (m1 rfl (ltI rfl rfl rfl (on ?_))))))
            refine ci rfl (fun hc4673 => ?_) (fun hc4673 => ?_)
            ·have hr4674 := if_p hc4673 hr4667
             refine sk (bk (sq (rg (m1 rfl ?_))))
             obtain ⟨hk4691, hr4692⟩ := chk_some hr4674
             refine mlI rfl rfl rfl hk4691 (a1 rfl (a1 rfl (on (sq ?_))))
             obtain ⟨e4699, hl4700, hr4701⟩ := bd_some hr4692
             refine jn (fun a w => St M W H [K1160, K1134, K1123, K1118, K1115, K1112, K20, K17, K14, H] [(4, Own.list ad1198 cap1199 3 1 (encI .i64) t4140), (2, cel b1161 133 [.slice ad10 r_2.words.length cap11, .int .i64 r_2.out, .int .i64 r_2.within, .map b1132, .slice ad1129 r1120.1.swaps.length cap1130, .slice none 0 0, .slice none 0 0, .slice (some ⟨b1159, 0, none⟩) ((List.replicate requests.length (0 : Int)).length) requests.length]), (1, Own.list (some ⟨b1159, 0, none⟩) requests.length 31 1 (encI .i64) (List.replicate requests.length (0 : Int)))] w ∧ Has [] 63 a [(0, .slice ad1198 e1195.length cap1199), (1, .int .i64 (e1195.length : Int)), (2, .func (.func 88) [].toArray [.pointer (some q1117)].toArray), (6, .int .i64 s4666), (7, .int .i64 (e4699 : Int))]) ?_ ?_
             ·refine bk ?_
              refine lp hl4700 (fun s4702 a w => St M W H [K1160, K1134, K1123, K1118, K1115, K1112, K20, K17, K14, H] [(4, Own.list ad1198 cap1199 3 1 (encI .i64) t4140), (2, cel b1161 133 [.slice ad10 r_2.words.length cap11, .int .i64 r_2.out, .int .i64 r_2.within, .map b1132, .slice ad1129 r1120.1.swaps.length cap1130, .slice none 0 0, .slice none 0 0, .slice (some ⟨b1159, 0, none⟩) ((List.replicate requests.length (0 : Int)).length) requests.length]), (1, Own.list (some ⟨b1159, 0, none⟩) requests.length 31 1 (encI .i64) (List.replicate requests.length (0 : Int)))] w ∧ Has [] 63 a [(0, .slice ad1198 e1195.length cap1199), (1, .int .i64 (e1195.length : Int)), (2, .func (.func 88) [].toArray [.pointer (some q1117)].toArray), (6, .int .i64 s4666), (7, .int .i64 (s4702.1 : Int)), (8, .int .i64 s4702.2)]) ?_ ?_
              ·exact cu ⟨rfl, rfl, rfl, rfl, rfl, rfl, tv⟩
              ·rintro j s4702 y4705 hr4703 hz4704 a w ⟨hS, hA⟩
               refine TG.ap ?_ hS hA
               unfold m42_8 at hr4703
               refine sq (sq (rg (m1 rfl (m1 rfl (leI rfl rfl rfl (on ?_))))))
               refine ci rfl (fun hc4709 => ?_) (fun hc4709 => ?_)
               ·have hr4710 := if_p hc4709 hr4703
                refine sk (bk (sq (rg (m1 rfl (m1 rfl (m1 rfl (m1 rfl ?_)))))))
                obtain ⟨hk4713, hr4714⟩ := chk_some hr4710
                refine adI rfl rfl rfl hk4713 (m1 rfl (m1 rfl ?_))
                cases hr4714
               ·have hr4715 := if_n hc4709 hr4703
                refine xt rfl ?_
                cases hr4715
                obtain rfl := Fin.out hz4704
                exact cu ⟨rfl, rfl, rfl, rfl, rfl, tv⟩
             ·rintro a w ⟨hS, hA⟩
              refine TG.ap ?_ hS hA
              refine sq (sq (rg (m1 rfl (m1 rfl ?_))))
              obtain ⟨hk4716, hr4717⟩ := chk_some hr4701
              refine adI rfl rfl rfl hk4716 (a1 rfl (on (sq (rg (m1 rfl (m1 rfl (ltI rfl rfl rfl (on ?_))))))))
              refine ci rfl (fun hc4721 => ?_) (fun hc4721 => ?_)
              ·have hr4722 := if_p hc4721 hr4717
               refine rg (m1 rfl (m1 rfl (m1 rfl (m1 rfl (m1 rfl ?_)))))
               cases hr4722
              ·have hr4723 := if_n hc4721 hr4717
               refine sk (rg (m1 rfl ?_))
               obtain ⟨hk4724, hr4725⟩ := chk_some hr4723
               refine mlI rfl rfl rfl hk4724 (a1 rfl (on ?_))
               cases hr4725
               intro a w hS hA
               exact ⟨_, hz4668, hS, hA.cut ⟨rfl, rfl, rfl, rfl, tv⟩⟩
            ·have hr4726 := if_n hc4673 hr4667
             refine xt rfl ?_
             cases hr4726
             obtain rfl := Fin.out hz4668
             exact cu tv
          ·rintro a w ⟨hS, hA⟩
           refine TG.ap ?_ hS hA
           cases hr4665
           intro a w hS hA
           refine ret0 hA rfl ?_
           exact ⟨_, rfl, ⟨rfl, hS, hln4143⟩⟩
       ·rintro a w v hA (⟨rfl, hS, hln2559⟩)
        refine putK rfl hA hS (on ?_)
        cases hr2558
        intro a w hS hA
        refine ret0 hA rfl ?_
        exact ⟨_, rfl, ⟨rfl, hS, hln2559⟩⟩
      ·rintro a w v hA (⟨rfl, hS, hln1892⟩)
       refine putK rfl hA hS (on (sq (sq (rg (m1 rfl (TG.len 4 rfl fun _ => (lnL U86 rfl rfl (m1 rfl (on (TG.nilRow 7 63 5 ?_))))))))))
       have hR4840 : Rows (RRequest) 5 H [] ([] : List Request) := tv
       refine TG.nilRow 8 3 1 (TG.as 8 (z := Own.list none 0 3 1 (encI .i64) ([] : List Int)) rfl rfl (TG.as 7 (z := Own.rows none 0 63 5 [] ([] : List Request)) rfl rfl ?_))
       obtain ⟨e5016, hl5017, hr5018⟩ := bd_some hr1891
       refine jn (fun a w => ∃ (ad5019 : Option Addr) (cap5020 : Nat) (ad5021 : Option Addr) (cap5022 : Nat) (css5023 : List (List Value)) (K5024 : Hp), St M W H [K5024, K1160, K1134, K1123, K1118, K1115, K1112, K20, K17, K14, H] [(8, Own.list ad5019 cap5020 3 1 (encI .i64) e5016.1), (7, Own.rows ad5021 cap5022 63 5 css5023 e5016.2.1), (4, Own.list ad1198 cap1199 3 1 (encI .i64) t1889), (2, cel b1161 133 [.slice ad10 r_2.words.length cap11, .int .i64 r_2.out, .int .i64 r_2.within, .map b1132, .slice ad1129 r1120.1.swaps.length cap1130, .slice ad5021 e5016.2.1.length cap5022, .slice ad5019 e5016.1.length cap5020, .slice (some ⟨b1159, 0, none⟩) ((List.replicate requests.length (0 : Int)).length) requests.length]), (1, Own.list (some ⟨b1159, 0, none⟩) requests.length 31 1 (encI .i64) e5016.2.2)] w ∧ Has [] 106 a [(13, .pointer (some (⟨b1161, 0, none⟩)))] ∧ Rows (RRequest) 5 K5024 css5023 e5016.2.1 ∧ e5016.2.2.length = (List.replicate requests.length (0 : Int)).length) ?_ ?_
       ·refine bk ?_
        refine lp hl5017 (fun s5027 a w => ∃ (ad5028 : Option Addr) (cap5029 : Nat) (ad5030 : Option Addr) (cap5031 : Nat) (css5032 : List (List Value)) (K5033 : Hp), St M W H [K5033, K1160, K1134, K1123, K1118, K1115, K1112, K20, K17, K14, H] [(8, Own.list ad5028 cap5029 3 1 (encI .i64) s5027.2.1), (7, Own.rows ad5030 cap5031 63 5 css5032 s5027.2.2.1), (4, Own.list ad1198 cap1199 3 1 (encI .i64) t1889), (2, cel b1161 133 [.slice ad10 r_2.words.length cap11, .int .i64 r_2.out, .int .i64 r_2.within, .map b1132, .slice ad1129 r1120.1.swaps.length cap1130, .slice ad5030 s5027.2.2.1.length cap5031, .slice ad5028 s5027.2.1.length cap5029, .slice (some ⟨b1159, 0, none⟩) ((List.replicate requests.length (0 : Int)).length) requests.length]), (1, Own.list (some ⟨b1159, 0, none⟩) requests.length 31 1 (encI .i64) s5027.2.2.2)] w ∧ Has [] 106 a [(7, .pointer (some q1117)), (13, .pointer (some (⟨b1161, 0, none⟩))), (55, .slice ad1198 e1195.length cap1199), (56, .int .i64 (e1195.length : Int)), (57, .int .i64 (s5027.1 : Int))] ∧ Rows (RRequest) 5 K5033 css5032 s5027.2.2.1 ∧ s5027.2.2.2.length = (List.replicate requests.length (0 : Int)).length) ?_ ?_
        ·intro a w hS hA
         exact ⟨none, 0, none, 0, [], H, hS.selH [9, 0, 1, 2, 3, 4, 5, 6, 7, 8, 9] rfl, hA.cut ⟨rfl, rfl, rfl, rfl, rfl, tv⟩, hR4840, rfl⟩
        ·rintro j s5027 y5038 hr5036 hz5037 a w ⟨ad5028, cap5029, ad5030, cap5031, css5032, K5033, hS, hA, hR5034, hln5035⟩
         refine TG.ap ?_ hS hA
         unfold m42_9 at hr5036
         refine sq (rg (ltI rfl rfl rfl (on (sq ?_))))
         refine ci rfl (fun hc5042 => ?_) (fun hc5042 => ?_)
         ·have hr5043 := if_p hc5042 hr5036
          refine sk (sq (bk (sq (rg ?_))))
          obtain ⟨x5116, hx5117, hr5118⟩ := bd_some hr5043
          refine TG.addr 4 rfl (lt_of0 hx5117) fun b5119 h => ?_; subst h
          refine iaP U86 Z3 rfl rfl rfl rfl (Nat.lt_of_lt_of_eq (lt_of hx5117) hln1892) (ld G3 rfl rfl (sE 4 rfl (fun _ => rfl) hx5117) rfl (a1 rfl (on (sq ?_))))
          obtain ⟨hk5120, hr5121⟩ := chk_some hr5118
          obtain ⟨x5122, hx5123, hr5124⟩ := bd_some hr5121
          obtain ⟨p5125, rfl⟩ := h_requests.adr hx5123
          obtain ⟨cs5126, hcs5127, hq5128, hr5129⟩ := h_requests.at hx5123
          have hr5130 := hr5129
          obtain ⟨ad5131, cap5132, rfl, hl5133⟩ := hr5129
          have := hl5133.len
          obtain ⟨r5134, hx5135, hr5136⟩ := bd_some hr5124
          refine drG 11 mixed (by kernel_rfl) rfl (dt rfl (m1 rfl fin1) (dt rfl (nl rfl rfl fin1) (dt rfl (fb 7 U133 rfl rfl rfl rfl Z59 fin1) (dt rfl (ld G59 rfl rfl ((sO 2 rfl).drop 7) rfl fin1) (dt rfl (m1 rfl fin1) (dt rfl (m1 rfl fin1) (dt rfl (ld G64 rfl rfl (sS 5 rfl hK1119) rfl fin1) (dt rfl (m1 rfl fin1) (dt rfl (iaP U64 Z63 rfl rfl rfl (by omega) (lt_of hx5123) fin1) (dt rfl (ldA G63 Z63 rfl rfl (sS 11 rfl hq5128) rfl fin1) (dt rfl (clL C90 rfl rfl rfl rfl (fun w hS => w90 (Hp.le.refl (hp w)) (hg.mono (hS.hp 11 rfl)) (⟨r_2, r1120.1, s5027.2.2.1, s5027.2.1, s5027.2.2.2⟩ : decided) (cell_at (hS.get (t := 2) rfl)) ⟨ad10, cap11, (.map b1132), ad1129, cap1130, ad5030, cap5031, ad5028, cap5029, (some ⟨b1159, 0, none⟩), requests.length, (by simp only [hln5035]), (hl12.mono (Flat.mono _) (hS.hp 11 rfl)), (hm1128.mono (hS.hp 4 rfl)), (hl1131.mono (Flat.mono _) (hS.hp 4 rfl)), (rows_sl (H := hp w) (hS.get (t := 7) rfl) (hR5034.mono (RRequest.mono) (hS.hp 1 rfl)) (fun _ _ _ ho => ho)), (list_sl (H := hp w) (enc := encI .i64) (size := 1) (ad := ad5028) (cap := cap5029) (el := 3) (l := s5027.2.1) (fun _ => rfl) (hS.get (t := 8) rfl) (fun _ _ _ ho => ho)), (list_sl (H := hp w) (enc := encI .i64) (size := 1) (ad := (some ⟨b1159, 0, none⟩)) (cap := requests.length) (el := 31) (l := s5027.2.2.2) (fun _ => rfl) (hS.get (t := 1) rfl) (fun _ _ _ ho => ho))⟩ x5122 (RRequest.mono _ _ _ _ (hS.hp 11 rfl) hr5130) hx5135) fin1) ?_)))))))))))
          refine DF.nil fun K5137 hF => ?_
          obtain ⟨x5138, hx5139, hr5140⟩ := bd_some hr5136
          refine iaP U59 Z31 rfl rfl rfl (by omega) (Nat.lt_of_lt_of_eq (lt_of hx5139) hln5035) ?_
          have hln5141 : (s5027.2.2.2.set x5116.toNat r5134).length = (List.replicate requests.length (0 : Int)).length := (lenS _ _ _).trans hln5035
          refine stE 1 r5134 (q := ⟨b1159, 0, none⟩) (j := x5116.toNat) (size := 1) (cs := [.int .i64 r5134]) (off := 0) Z31 rfl rfl rfl (fun _ => rfl) hx5139 rfl rfl rfl rfl rfl (on (sq (rg (m1 rfl (nl rfl rfl (fb 7 U133 rfl rfl rfl rfl Z59 (ld G59 rfl rfl ((sO 2 rfl).drop 7) rfl (m1 rfl ?_))))))))
          obtain ⟨x5142, hx5143, hr5144⟩ := bd_some hr5140
          refine iaP U59 Z31 rfl rfl rfl (by omega) (Nat.lt_of_lt_of_eq (lt_of hx5143) hln5141) (ld G31 rfl rfl (sE 1 rfl (fun _ => rfl) hx5143) rfl (eqI rfl rfl rfl (on ?_)))
          obtain ⟨t5180, hx5181, hr5182⟩ := bd_some hr5144
          refine jn (fun a w => ∃ (ad5183 : Option Addr) (cap5184 : Nat) (ad5185 : Option Addr) (cap5186 : Nat) (css5187 : List (List Value)) (K5188 : Hp), St M W H [K5188, K5137, K5033, K1160, K1134, K1123, K1118, K1115, K1112, K20, K17, K14, H] [(8, Own.list ad5183 cap5184 3 1 (encI .i64) t5180.1), (7, Own.rows ad5185 cap5186 63 5 css5187 t5180.2), (4, Own.list (some ⟨b5119, 0, none⟩) cap1199 3 1 (encI .i64) t1889), (2, cel b1161 133 [.slice ad10 r_2.words.length cap11, .int .i64 r_2.out, .int .i64 r_2.within, .map b1132, .slice ad1129 r1120.1.swaps.length cap1130, .slice ad5185 t5180.2.length cap5186, .slice ad5183 t5180.1.length cap5184, .slice (some ⟨b1159, 0, none⟩) ((List.replicate requests.length (0 : Int)).length) requests.length]), (1, Own.list (some ⟨b1159, 0, none⟩) requests.length 31 1 (encI .i64) (s5027.2.2.2.set x5116.toNat r5134))] w ∧ Has [] 106 a [(7, .pointer (some q1117)), (13, .pointer (some (⟨b1161, 0, none⟩))), (55, .slice (some ⟨b5119, 0, none⟩) e1195.length cap1199), (56, .int .i64 (e1195.length : Int)), (57, .int .i64 (s5027.1 : Int))] ∧ Rows (RRequest) 5 K5188 css5187 t5180.2) ?_ ?_
          ·refine ci rfl (fun hc5190 => ?_) (fun hc5190 => ?_)
           ·have hr5191 := if_p hc5190 hx5181
            obtain ⟨hk5201, hr5202⟩ := chk_some hr5191
            have := lenA s5027.2.2.1 ([x5122] : List Request)
            obtain ⟨hk5219, hr5220⟩ := chk_some hr5202
            have := lenA s5027.2.1 ([x5116] : List Int)
            refine drG3 19 [11, 18] [(1, 82, .pointer (some (⟨b1161, 0, none⟩)))] mixed (fun _ _ _ _ _ h => h) (by kernel_rfl) (by kernel_rfl) (by kernel_rfl) rfl (by kernel_rfl) (.cons rfl rfl rfl (fun _ => rfl) (by kernel_rfl) (by kernel_rfl) (fun _ _ => rfl) (mvY rfl) (.nil)) (DC.detA rfl rfl rfl (fun τ a w K hS hA hF => TG.pa hS hA (m1 rfl fin1)) (DC.pre (.head _) rfl (dc rfl (by kernel_rfl) tv rfl rfl (m1 rfl fin1) (dc rfl (by kernel_rfl) tv rfl rfl (nl rfl rfl fin1) (dc rfl (by kernel_rfl) tv rfl rfl (fb 5 U133 rfl rfl rfl rfl Z64 fin1) (dc rfl (by kernel_rfl) tv rfl rfl (ld G64 rfl rfl (((sO 2 rfl).drop 5).take 1) rfl fin1) (dc rfl (by kernel_rfl) tv rfl rfl (ld G64 rfl rfl (sS 6 rfl hK1119) rfl fin1) (dc rfl (by kernel_rfl) tv rfl rfl (m1 rfl fin1) (dc rfl (by kernel_rfl) tv rfl rfl (iaP U64 Z63 rfl rfl rfl (by omega) (lt_of hx5123) fin1) (dc rfl (by kernel_rfl) tv rfl rfl (ldA G63 Z63 rfl rfl (sS 12 rfl hq5128) rfl fin1) ?_))))))))))
            refine DC.und (α := Option Addr × Nat) (none, 0) (fun q => .slice q.1 1 q.2) (fun (q : Option Addr × Nat) K => Sl (RRequest) 5 K q.1 q.2 ([x5122] : List Request)) (fun τ => τ = [(8, Own.list ad5028 cap5029 3 1 (encI .i64) s5027.2.1), (7, Own.rows ad5030 cap5031 63 5 css5032 s5027.2.2.1), (4, Own.list (some ⟨b5119, 0, none⟩) cap1199 3 1 (encI .i64) t1889), (2, cel b1161 133 [.slice ad10 r_2.words.length cap11, .int .i64 r_2.out, .int .i64 r_2.within, .map b1132, .slice ad1129 r1120.1.swaps.length cap1130, .slice ad5030 s5027.2.2.1.length cap5031, .slice ad5028 s5027.2.1.length cap5029, .slice (some ⟨b1159, 0, none⟩) ((List.replicate requests.length (0 : Int)).length) requests.length]), (1, Own.list (some ⟨b1159, 0, none⟩) requests.length 31 1 (encI .i64) (s5027.2.2.2.set x5116.toNat r5134))]) rfl rfl (by kernel_rfl) tv (fun _ _ _ h x => x.mono (RRequest.mono) h) (by kernel_rfl) rfl rfl (fun τ hτ a w K hS hA hF => by subst hτ <;> exact TG.pa hS hA (bS (cs := [.int .i64 x5122.by_, .int .i64 x5122.minute, .int .i64 x5122.from_, .int .i64 x5122.cut, .slice ad5131 x5122.put_.length cap5132]) T4.E64 rfl rfl rfl rfl fun q5192 K5193 hq5194 hK5195 => by
              refine TG.pack (fun K => Sl (RRequest) 5 K (some q5192) 1 ([x5122] : List Request)) (fun H le => Sl.litR (css := [[.int .i64 x5122.by_, .int .i64 x5122.minute, .int .i64 x5122.from_, .int .i64 x5122.cut, .slice ad5131 x5122.put_.length cap5132]]) (l := ([x5122] : List Request)) ⟨⟨rfl, rfl, (RRequest.mono _ _ _ _ (le.at 13 rfl) hr5130)⟩, tv⟩ hq5194 (hK5195.mono (le.at 0 rfl)) rfl) fun K5197 hl5196 => ?_
              have := hl5196.len
              refine sk1 ?_
              exact finU (f := fun q => .slice q.1 1 q.2) (G := (fun (q : Option Addr × Nat) K => Sl (RRequest) 5 K q.1 q.2 ([x5122] : List Request))) (_, _) (fun _ _ _ h x => x.mono (RRequest.mono) h) hl5196)) ?_
            rintro ⟨ad5199, cap5200⟩
            refine DC.turn (α := Option Addr × Nat × List (List Value)) (none, 0, []) (fun q => .slice q.1 ((s5027.2.2.1 ++ ([x5122] : List Request)).length) q.2.1) (fun (q : Option Addr × Nat × List (List Value)) K => Rows (RRequest) 5 K q.2.2 (s5027.2.2.1 ++ ([x5122] : List Request))) (fun q => [(8, Own.list ad5028 cap5029 3 1 (encI .i64) s5027.2.1), (7, Own.rows q.1 q.2.1 63 5 q.2.2 (s5027.2.2.1 ++ ([x5122] : List Request))), (4, Own.list (some ⟨b5119, 0, none⟩) cap1199 3 1 (encI .i64) t1889), (2, cel b1161 133 [.slice ad10 r_2.words.length cap11, .int .i64 r_2.out, .int .i64 r_2.within, .map b1132, .slice ad1129 r1120.1.swaps.length cap1130, .slice ad5030 s5027.2.2.1.length cap5031, .slice ad5028 s5027.2.1.length cap5029, .slice (some ⟨b1159, 0, none⟩) ((List.replicate requests.length (0 : Int)).length) requests.length]), (1, Own.list (some ⟨b1159, 0, none⟩) requests.length 31 1 (encI .i64) (s5027.2.2.2.set x5116.toNat r5134))]) rfl (fun _ _ _ h x => x.mono (RRequest.mono) h) (by kernel_rfl) rfl rfl (fun a w K hS hA hF => TG.pa hS hA (TG.pack (fun K => Sl (RRequest) 5 K ad5199 cap5200 ([x5122] : List Request) ∧ Rows (RRequest) 5 K css5032 s5027.2.2.1) (fun H le => ⟨(hF.1 rfl).mono (RRequest.mono) (le.at 0 rfl), hR5034.mono (RRequest.mono) (le.at 2 rfl)⟩) fun K5205 ⟨hm5206, hR5207⟩ => apR 7 (l := s5027.2.2.1) (m := ([x5122] : List Request)) T4.E64 rfl rfl rfl rfl rfl rfl hm5206 hR5207 RRequest.one rfl hk5201 fun ad5203 cap5204 css5209 hR5208 => finV (f := fun (q : Option Addr × Nat × List (List Value)) => .slice q.1 ((s5027.2.2.1 ++ ([x5122] : List Request)).length) q.2.1) (G := (fun (q : Option Addr × Nat × List (List Value)) K => Rows (RRequest) 5 K q.2.2 (s5027.2.2.1 ++ ([x5122] : List Request)))) (σ1 := fun q => [(8, Own.list ad5028 cap5029 3 1 (encI .i64) s5027.2.1), (7, Own.rows q.1 q.2.1 63 5 q.2.2 (s5027.2.2.1 ++ ([x5122] : List Request))), (4, Own.list (some ⟨b5119, 0, none⟩) cap1199 3 1 (encI .i64) t1889), (2, cel b1161 133 [.slice ad10 r_2.words.length cap11, .int .i64 r_2.out, .int .i64 r_2.within, .map b1132, .slice ad1129 r1120.1.swaps.length cap1130, .slice ad5030 s5027.2.2.1.length cap5031, .slice ad5028 s5027.2.1.length cap5029, .slice (some ⟨b1159, 0, none⟩) ((List.replicate requests.length (0 : Int)).length) requests.length]), (1, Own.list (some ⟨b1159, 0, none⟩) requests.length 31 1 (encI .i64) (s5027.2.2.2.set x5116.toNat r5134))]) (ad5203, cap5204, css5209) (fun _ _ _ h x => x.mono (RRequest.mono) h) hR5208)) ?_
            rintro ⟨ad5203, cap5204, css5209⟩
            refine DC.det (fun τ => τ = [(8, Own.list ad5028 cap5029 3 1 (encI .i64) s5027.2.1), (7, Own.rows ad5203 cap5204 63 5 css5209 (s5027.2.2.1 ++ ([x5122] : List Request))), (4, Own.list (some ⟨b5119, 0, none⟩) cap1199 3 1 (encI .i64) t1889), (2, cel b1161 133 [.slice ad10 r_2.words.length cap11, .int .i64 r_2.out, .int .i64 r_2.within, .map b1132, .slice ad1129 r1120.1.swaps.length cap1130, .slice ad5030 s5027.2.2.1.length cap5031, .slice ad5028 s5027.2.1.length cap5029, .slice (some ⟨b1159, 0, none⟩) ((List.replicate requests.length (0 : Int)).length) requests.length]), (1, Own.list (some ⟨b1159, 0, none⟩) requests.length 31 1 (encI .i64) (s5027.2.2.2.set x5116.toNat r5134))] ∨ τ = [(8, Own.list ad5028 cap5029 3 1 (encI .i64) s5027.2.1), (7, Own.rows ad5030 cap5031 63 5 css5032 s5027.2.2.1), (4, Own.list (some ⟨b5119, 0, none⟩) cap1199 3 1 (encI .i64) t1889), (2, cel b1161 133 [.slice ad10 r_2.words.length cap11, .int .i64 r_2.out, .int .i64 r_2.within, .map b1132, .slice ad1129 r1120.1.swaps.length cap1130, .slice ad5030 s5027.2.2.1.length cap5031, .slice ad5028 s5027.2.1.length cap5029, .slice (some ⟨b1159, 0, none⟩) ((List.replicate requests.length (0 : Int)).length) requests.length]), (1, Own.list (some ⟨b1159, 0, none⟩) requests.length 31 1 (encI .i64) (s5027.2.2.2.set x5116.toNat r5134))]) rfl (.inl rfl) (by kernel_rfl) ⟨.inl (.inr (rfl)), tv⟩ rfl rfl (fun τ hτ a w K hS hA hF => by rcases hτ with rfl | rfl <;> exact TG.pa hS hA (m1 rfl fin1)) ?_
            refine DC.det (fun τ => τ = [(8, Own.list ad5028 cap5029 3 1 (encI .i64) s5027.2.1), (7, Own.rows ad5203 cap5204 63 5 css5209 (s5027.2.2.1 ++ ([x5122] : List Request))), (4, Own.list (some ⟨b5119, 0, none⟩) cap1199 3 1 (encI .i64) t1889), (2, cel b1161 133 [.slice ad10 r_2.words.length cap11, .int .i64 r_2.out, .int .i64 r_2.within, .map b1132, .slice ad1129 r1120.1.swaps.length cap1130, .slice ad5030 s5027.2.2.1.length cap5031, .slice ad5028 s5027.2.1.length cap5029, .slice (some ⟨b1159, 0, none⟩) ((List.replicate requests.length (0 : Int)).length) requests.length]), (1, Own.list (some ⟨b1159, 0, none⟩) requests.length 31 1 (encI .i64) (s5027.2.2.2.set x5116.toNat r5134))] ∨ τ = [(8, Own.list ad5028 cap5029 3 1 (encI .i64) s5027.2.1), (7, Own.rows ad5030 cap5031 63 5 css5032 s5027.2.2.1), (4, Own.list (some ⟨b5119, 0, none⟩) cap1199 3 1 (encI .i64) t1889), (2, cel b1161 133 [.slice ad10 r_2.words.length cap11, .int .i64 r_2.out, .int .i64 r_2.within, .map b1132, .slice ad1129 r1120.1.swaps.length cap1130, .slice ad5030 s5027.2.2.1.length cap5031, .slice ad5028 s5027.2.1.length cap5029, .slice (some ⟨b1159, 0, none⟩) ((List.replicate requests.length (0 : Int)).length) requests.length]), (1, Own.list (some ⟨b1159, 0, none⟩) requests.length 31 1 (encI .i64) (s5027.2.2.2.set x5116.toNat r5134))]) rfl (.inl rfl) (by kernel_rfl) ⟨.inl (.inr (rfl)), tv⟩ rfl rfl (fun τ hτ a w K hS hA hF => by rcases hτ with rfl | rfl <;> exact TG.pa hS hA (nl rfl rfl fin1)) ?_
            refine DC.det (fun τ => τ = [(8, Own.list ad5028 cap5029 3 1 (encI .i64) s5027.2.1), (7, Own.rows ad5203 cap5204 63 5 css5209 (s5027.2.2.1 ++ ([x5122] : List Request))), (4, Own.list (some ⟨b5119, 0, none⟩) cap1199 3 1 (encI .i64) t1889), (2, cel b1161 133 [.slice ad10 r_2.words.length cap11, .int .i64 r_2.out, .int .i64 r_2.within, .map b1132, .slice ad1129 r1120.1.swaps.length cap1130, .slice ad5030 s5027.2.2.1.length cap5031, .slice ad5028 s5027.2.1.length cap5029, .slice (some ⟨b1159, 0, none⟩) ((List.replicate requests.length (0 : Int)).length) requests.length]), (1, Own.list (some ⟨b1159, 0, none⟩) requests.length 31 1 (encI .i64) (s5027.2.2.2.set x5116.toNat r5134))] ∨ τ = [(8, Own.list ad5028 cap5029 3 1 (encI .i64) s5027.2.1), (7, Own.rows ad5030 cap5031 63 5 css5032 s5027.2.2.1), (4, Own.list (some ⟨b5119, 0, none⟩) cap1199 3 1 (encI .i64) t1889), (2, cel b1161 133 [.slice ad10 r_2.words.length cap11, .int .i64 r_2.out, .int .i64 r_2.within, .map b1132, .slice ad1129 r1120.1.swaps.length cap1130, .slice ad5030 s5027.2.2.1.length cap5031, .slice ad5028 s5027.2.1.length cap5029, .slice (some ⟨b1159, 0, none⟩) ((List.replicate requests.length (0 : Int)).length) requests.length]), (1, Own.list (some ⟨b1159, 0, none⟩) requests.length 31 1 (encI .i64) (s5027.2.2.2.set x5116.toNat r5134))]) rfl (.inl rfl) (by kernel_rfl) ⟨.inl (.inr (rfl)), tv⟩ rfl rfl (fun τ hτ a w K hS hA hF => by rcases hτ with rfl | rfl <;> exact TG.pa hS hA (fb 6 U133 rfl rfl rfl rfl Z86 fin1)) ?_
            refine DC.det (fun τ => τ = [(8, Own.list ad5028 cap5029 3 1 (encI .i64) s5027.2.1), (7, Own.rows ad5203 cap5204 63 5 css5209 (s5027.2.2.1 ++ ([x5122] : List Request))), (4, Own.list (some ⟨b5119, 0, none⟩) cap1199 3 1 (encI .i64) t1889), (2, cel b1161 133 [.slice ad10 r_2.words.length cap11, .int .i64 r_2.out, .int .i64 r_2.within, .map b1132, .slice ad1129 r1120.1.swaps.length cap1130, .slice ad5030 s5027.2.2.1.length cap5031, .slice ad5028 s5027.2.1.length cap5029, .slice (some ⟨b1159, 0, none⟩) ((List.replicate requests.length (0 : Int)).length) requests.length]), (1, Own.list (some ⟨b1159, 0, none⟩) requests.length 31 1 (encI .i64) (s5027.2.2.2.set x5116.toNat r5134))] ∨ τ = [(8, Own.list ad5028 cap5029 3 1 (encI .i64) s5027.2.1), (7, Own.rows ad5030 cap5031 63 5 css5032 s5027.2.2.1), (4, Own.list (some ⟨b5119, 0, none⟩) cap1199 3 1 (encI .i64) t1889), (2, cel b1161 133 [.slice ad10 r_2.words.length cap11, .int .i64 r_2.out, .int .i64 r_2.within, .map b1132, .slice ad1129 r1120.1.swaps.length cap1130, .slice ad5030 s5027.2.2.1.length cap5031, .slice ad5028 s5027.2.1.length cap5029, .slice (some ⟨b1159, 0, none⟩) ((List.replicate requests.length (0 : Int)).length) requests.length]), (1, Own.list (some ⟨b1159, 0, none⟩) requests.length 31 1 (encI .i64) (s5027.2.2.2.set x5116.toNat r5134))]) rfl (.inl rfl) (by kernel_rfl) ⟨.inl (.inr (rfl)), tv⟩ rfl rfl (fun τ hτ a w K hS hA hF => by rcases hτ with rfl | rfl <;> exact TG.pa hS hA (ld G86 rfl rfl (((sO 2 rfl).drop 6).take 1) rfl fin1)) ?_
            refine DC.det (fun τ => τ = [(8, Own.list ad5028 cap5029 3 1 (encI .i64) s5027.2.1), (7, Own.rows ad5203 cap5204 63 5 css5209 (s5027.2.2.1 ++ ([x5122] : List Request))), (4, Own.list (some ⟨b5119, 0, none⟩) cap1199 3 1 (encI .i64) t1889), (2, cel b1161 133 [.slice ad10 r_2.words.length cap11, .int .i64 r_2.out, .int .i64 r_2.within, .map b1132, .slice ad1129 r1120.1.swaps.length cap1130, .slice ad5030 s5027.2.2.1.length cap5031, .slice ad5028 s5027.2.1.length cap5029, .slice (some ⟨b1159, 0, none⟩) ((List.replicate requests.length (0 : Int)).length) requests.length]), (1, Own.list (some ⟨b1159, 0, none⟩) requests.length 31 1 (encI .i64) (s5027.2.2.2.set x5116.toNat r5134))] ∨ τ = [(8, Own.list ad5028 cap5029 3 1 (encI .i64) s5027.2.1), (7, Own.rows ad5030 cap5031 63 5 css5032 s5027.2.2.1), (4, Own.list (some ⟨b5119, 0, none⟩) cap1199 3 1 (encI .i64) t1889), (2, cel b1161 133 [.slice ad10 r_2.words.length cap11, .int .i64 r_2.out, .int .i64 r_2.within, .map b1132, .slice ad1129 r1120.1.swaps.length cap1130, .slice ad5030 s5027.2.2.1.length cap5031, .slice ad5028 s5027.2.1.length cap5029, .slice (some ⟨b1159, 0, none⟩) ((List.replicate requests.length (0 : Int)).length) requests.length]), (1, Own.list (some ⟨b1159, 0, none⟩) requests.length 31 1 (encI .i64) (s5027.2.2.2.set x5116.toNat r5134))]) rfl (.inl rfl) (by kernel_rfl) ⟨.inl (.inr (rfl)), tv⟩ rfl rfl (fun τ hτ a w K hS hA hF => by rcases hτ with rfl | rfl <;> exact TG.pa hS hA (m1 rfl fin1)) ?_
            refine DC.und (α := Option Addr × Nat) (none, 0) (fun q => .slice q.1 1 q.2) (fun (q : Option Addr × Nat) K => Sl (Flat (encI .i64)) 1 K q.1 q.2 ([x5116] : List Int)) (fun τ => τ = [(8, Own.list ad5028 cap5029 3 1 (encI .i64) s5027.2.1), (7, Own.rows ad5203 cap5204 63 5 css5209 (s5027.2.2.1 ++ ([x5122] : List Request))), (4, Own.list (some ⟨b5119, 0, none⟩) cap1199 3 1 (encI .i64) t1889), (2, cel b1161 133 [.slice ad10 r_2.words.length cap11, .int .i64 r_2.out, .int .i64 r_2.within, .map b1132, .slice ad1129 r1120.1.swaps.length cap1130, .slice ad5030 s5027.2.2.1.length cap5031, .slice ad5028 s5027.2.1.length cap5029, .slice (some ⟨b1159, 0, none⟩) ((List.replicate requests.length (0 : Int)).length) requests.length]), (1, Own.list (some ⟨b1159, 0, none⟩) requests.length 31 1 (encI .i64) (s5027.2.2.2.set x5116.toNat r5134))] ∨ τ = [(8, Own.list ad5028 cap5029 3 1 (encI .i64) s5027.2.1), (7, Own.rows ad5030 cap5031 63 5 css5032 s5027.2.2.1), (4, Own.list (some ⟨b5119, 0, none⟩) cap1199 3 1 (encI .i64) t1889), (2, cel b1161 133 [.slice ad10 r_2.words.length cap11, .int .i64 r_2.out, .int .i64 r_2.within, .map b1132, .slice ad1129 r1120.1.swaps.length cap1130, .slice ad5030 s5027.2.2.1.length cap5031, .slice ad5028 s5027.2.1.length cap5029, .slice (some ⟨b1159, 0, none⟩) ((List.replicate requests.length (0 : Int)).length) requests.length]), (1, Own.list (some ⟨b1159, 0, none⟩) requests.length 31 1 (encI .i64) (s5027.2.2.2.set x5116.toNat r5134))]) rfl (.inl rfl) (by kernel_rfl) ⟨.inl (.inr (rfl)), tv⟩ (fun _ _ _ h x => x.mono (Flat.mono _) h) (by kernel_rfl) rfl rfl (fun τ hτ a w K hS hA hF => by rcases hτ with rfl | rfl <;> exact TG.pa hS hA (bS (cs := [.int .i64 x5116]) T4.E86 rfl rfl rfl rfl fun q5211 K5212 hq5213 hK5214 => by
              have hl5215 : Sl (Flat (encI .i64)) 1 K5212 (some q5211) 1 ([x5116] : List Int) := Sl.litR (css := [[.int .i64 x5116]]) (l := ([x5116] : List Int)) ⟨⟨rfl, rfl, rfl⟩, tv⟩ hq5213 hK5214 rfl
              have := hl5215.len
              exact finU (f := fun q => .slice q.1 1 q.2) (G := (fun (q : Option Addr × Nat) K => Sl (Flat (encI .i64)) 1 K q.1 q.2 ([x5116] : List Int))) (_, _) (fun _ _ _ h x => x.mono (Flat.mono _) h) hl5215)) ?_
            rintro ⟨ad5217, cap5218⟩
            refine DC.turn (α := Option Addr × Nat) (none, 0) (fun q => .slice q.1 ((s5027.2.1 ++ ([x5116] : List Int)).length) q.2) (fun _ _ => True) (fun q => [(8, Own.list q.1 q.2 3 1 (encI .i64) (s5027.2.1 ++ ([x5116] : List Int))), (7, Own.rows ad5203 cap5204 63 5 css5209 (s5027.2.2.1 ++ ([x5122] : List Request))), (4, Own.list (some ⟨b5119, 0, none⟩) cap1199 3 1 (encI .i64) t1889), (2, cel b1161 133 [.slice ad10 r_2.words.length cap11, .int .i64 r_2.out, .int .i64 r_2.within, .map b1132, .slice ad1129 r1120.1.swaps.length cap1130, .slice ad5030 s5027.2.2.1.length cap5031, .slice ad5028 s5027.2.1.length cap5029, .slice (some ⟨b1159, 0, none⟩) ((List.replicate requests.length (0 : Int)).length) requests.length]), (1, Own.list (some ⟨b1159, 0, none⟩) requests.length 31 1 (encI .i64) (s5027.2.2.2.set x5116.toNat r5134))]) rfl (fun _ _ _ _ h => h) (by kernel_rfl) rfl rfl (fun a w K hS hA hF => TG.pa hS hA (apS 8 (enc := encI .i64) (l := s5027.2.1) (m := ([x5116] : List Int)) T4.E86 rfl rfl rfl rfl rfl rfl (hF.1 rfl) 0 rfl (fun _ => rfl) (fun _ => rfl) rfl hk5219 fun ad5221 cap5222 => finT (f := fun q => .slice q.1 ((s5027.2.1 ++ ([x5116] : List Int)).length) q.2) (G := fun _ _ => True) (σ1 := fun q => [(8, Own.list q.1 q.2 3 1 (encI .i64) (s5027.2.1 ++ ([x5116] : List Int))), (7, Own.rows ad5203 cap5204 63 5 css5209 (s5027.2.2.1 ++ ([x5122] : List Request))), (4, Own.list (some ⟨b5119, 0, none⟩) cap1199 3 1 (encI .i64) t1889), (2, cel b1161 133 [.slice ad10 r_2.words.length cap11, .int .i64 r_2.out, .int .i64 r_2.within, .map b1132, .slice ad1129 r1120.1.swaps.length cap1130, .slice ad5030 s5027.2.2.1.length cap5031, .slice ad5028 s5027.2.1.length cap5029, .slice (some ⟨b1159, 0, none⟩) ((List.replicate requests.length (0 : Int)).length) requests.length]), (1, Own.list (some ⟨b1159, 0, none⟩) requests.length 31 1 (encI .i64) (s5027.2.2.2.set x5116.toNat r5134))]) (_, _) tv)) ?_
            rintro ⟨ad5221, cap5222⟩
            refine DC.nil fun K5223 hF => ?_
            obtain ⟨_, hu5216, hu5210, hu5198, _⟩ := hF
            have := hu5198.len
            have := hu5216.len
            refine nl rfl rfl (fb 5 U133 rfl rfl rfl rfl Z64 (sto 2 (cs := [.slice ad5203 ((s5027.2.2.1 ++ ([x5122] : List Request)).length) cap5204]) Z64 rfl rfl rfl rfl rfl rfl rfl (nl rfl rfl (fb 6 U133 rfl rfl rfl rfl Z86 (sto 2 (cs := [.slice ad5221 ((s5027.2.1 ++ ([x5116] : List Int)).length) cap5222]) Z86 rfl rfl rfl rfl rfl rfl rfl (on ?_))))))
            cases hr5220
            intro a w hS hA
            exact ⟨ad5221, cap5222, ad5203, cap5204, css5209, K5223, hS, hA.cut ⟨rfl, rfl, rfl, rfl, rfl, tv⟩, hu5210⟩
           ·have hr5224 := if_n hc5190 hx5181
            refine sk ?_
            cases hr5224
            intro a w hS hA
            exact ⟨ad5028, cap5029, ad5030, cap5031, css5032, K5033, hS.selH [1, 0, 1, 2, 3, 4, 5, 6, 7, 8, 9, 10, 11] rfl, hA.cut ⟨rfl, rfl, rfl, rfl, rfl, tv⟩, hR5034⟩
          ·rintro a w ⟨ad5183, cap5184, ad5185, cap5186, css5187, K5188, hS, hA, hR5189⟩
           refine TG.ap ?_ hS hA
           refine rg (adI rfl rfl rfl (by omega) (m1 rfl (on ?_)))
           cases hr5182
           intro a w hS hA
           exact ⟨_, hz5037, ad5183, cap5184, ad5185, cap5186, css5187, K5188, hS.selH [0, 3, 4, 5, 6, 7, 8, 9, 10, 11, 12] rfl, hA.cut ⟨rfl, rfl, rfl, rfl, rfl, tv⟩, hR5189, hln5141⟩
         ·have hr5225 := if_n hc5042 hr5036
          refine xt rfl ?_
          cases hr5225
          obtain rfl := Fin.out hz5037
          intro a w hS hA
          exact ⟨ad5028, cap5029, ad5030, cap5031, css5032, K5033, hS, hA.cut ⟨rfl, tv⟩, hR5034, hln5035⟩
       ·rintro a w ⟨ad5019, cap5020, ad5021, cap5022, css5023, K5024, hS, hA, hR5025, hln5026⟩
        refine TG.ap ?_ hS hA
        refine sq (rg (m1 rfl (a1 rfl (a1 rfl (on (rt_ (TG.del 4 (TG.as 2 (z := cel b1161 133 [.slice ad10 r_2.words.length cap11, .int .i64 r_2.out, .int .i64 r_2.within, .map b1132, .slice ad1129 r1120.1.swaps.length cap1130, .slice ad5021 e5016.2.1.length cap5022, .slice ad5019 e5016.1.length cap5020, .slice (some ⟨b1159, 0, none⟩) e5016.2.2.length requests.length]) rfl (by rw [hln5026]) ?_))))))))
        cases hr5018
        intro a w hS hA
        refine ret2 hA rfl rfl rfl ?_
        exact ⟨_, rfl, .inr (⟨_, rfl, b1161, ad5019, cap5020, ad5021, cap5022, css5023, K5024, ad10, cap11, H, .map b1132, K1123, ad1129, cap1130, K1123, (some ⟨b1159, 0, none⟩), requests.length, rfl, hS.selH [0, 10, 3, 3, 7, 8, 9, 10] rfl, hR5025, hl12, hm1128, hl1131⟩)⟩
 ·rintro a w v hA (⟨t1088, rfl, rfl, hS⟩ | ⟨t1089, rfl, b1090, ad1091, cap1092, ad1093, cap1094, css1095, K1096, ad1098, cap1099, K1100, mp1102, K1103, ad1105, cap1106, K1107, ad1109, cap1110, rfl, hS, hR1097, hl1101, hm1104, hl1108⟩)
  ·refine putK rfl hA hS (m1 rfl (ex rfl rfl rfl (ex rfl rfl rfl (va (cs := [.pointer none]) Tryz.zeroValue129 Z129 rfl rfl rfl rfl rfl rfl rfl rfl fun q5226 K5227 hK5228 => (a1 rfl (on (sq (sq (rg (m1 rfl (neI rfl rfl rfl ?_)))))))))))
   refine on ?_
   refine ci rfl (fun hc5232 => ?_) (fun hc5232 => ?_)
   ·have hr5233 := if_p hc5232 hr1087
    refine sq (rg (m1 rfl (a1 rfl (a1 rfl (on (rt_ ?_))))))
    cases hr5233
    intro a w hS hA
    refine ret2 hA rfl rfl rfl ?_
    exact ⟨⟨_, _, rfl, (Sl.nil _ _ _ _ _ (by decide))⟩, hS.ext⟩
   ·have hr5234 := if_n hc5232 hr1087
    refine sk (sq (rg (ld G129 rfl rfl (sS 0 rfl hK5228) rfl ?_)))
    cases hr5234
  ·have := hl1101.len
   have := hl1108.len
   refine putK rfl hA hS (m1 rfl (ex rfl rfl rfl (ex rfl rfl rfl (va (cs := [.pointer (some (⟨b1090, 0, none⟩))]) Tryz.zeroValue129 Z129 rfl rfl rfl rfl rfl rfl rfl rfl fun q5235 K5236 hK5237 => (a1 rfl (on (sq (sq (rg (m1 rfl (neI rfl rfl rfl ?_)))))))))))
   refine on (cF rfl ((rfl : decide ((0 : Int) ≠ (0 : Int)) = false)) (sk (sq (rg (ld G129 rfl rfl (sS 0 rfl hK5237) rfl (nl rfl rfl (fb 6 U133 rfl rfl rfl rfl Z86 (ld G86 rfl rfl (((sO 2 rfl).drop 6).take 1) rfl (fn rfl rfl rfl ?_)))))))))
   obtain ⟨l5238, hx5239, hr5240⟩ := bd_some hr1087
   have hln5241 : l5238.length = t1089.1.length := (sortO_len hx5239)
   refine srt1 8 (enc := encI .i64) (V := Vi .i64) (V' := Vi .i64) (Value.int .i64) (fun _ => rfl) (fun _ => rfl) Tryz.srt64 C64 rfl rfl rfl rfl rfl rfl (fun H le => ⟨65, [], [.pointer (some q19)], rfl, C65, fun w_ K_ args_ v_ hK hw hs => by obtain ⟨u0_, u1_, x0_, x1_, r_, rfl, h0_, h1_, hx, rfl⟩ := hs; cases h0_; cases h1_; exact w65 (H := K_) hw  x0_ x1_ (f0_ := requests) (hK21.mono ((le.at 5 rfl).trans hK)) (h_requests.mono (RRequest.mono) ((le.at 8 rfl).trans hK)) hx⟩) (fun _ _ => rfl) (fun _ _ => rfl) hx5239 (on (sq (rg (al 9 (cs := [.slice none 0 0]) Tryz.zeroValue91 rfl rfl fun b5242 => (on (sq (rg (al 10 (cs := [.int .i64 0]) Tryz.zeroValue3 rfl rfl fun b5243 => (sto 10 (cs := [.int .i64 0]) Z3 rfl rfl rfl rfl rfl rfl rfl (on (sq ?_)))))))))))
   refine rg (fn rfl rfl rfl (a1 rfl (on (sq (sq (rg (ld G129 rfl rfl (sS 0 rfl hK5237) rfl (nl rfl rfl (fb 6 U133 rfl rfl rfl rfl Z86 (ld G86 rfl rfl (((sO 2 rfl).drop 6).take 1) rfl (TG.len 8 rfl fun _ => ?_)))))))))))
   refine lnL U86 rfl rfl (m1 rfl (on (TG.nilRow 13 98 3 ?_)))
   have hR5455 : Rows (RSegment) 3 H [] ([] : List Segment) := tv
   refine TG.as 13 (z := Own.rows none 0 98 3 [] ([] : List Segment)) rfl rfl ?_
   obtain ⟨e5842, hl5843, hr5844⟩ := bd_some hr5240
   refine jn (fun a w => ∃ (ad5845 : Option Addr) (cap5846 : Nat) (css5847 : List (List Value)) (K5848 : Hp), St M W H [K5848, K5236, K1096, K1100, K1103, K1107, K20, K17, K14, H] [(13, Own.rows ad5845 cap5846 98 3 css5847 e5842.2), (10, cel b5243 3 [.int .i64 e5842.1]), (9, cel b5242 91 [.slice ad5845 e5842.2.length cap5846]), (8, Own.list ad1091 cap1092 3 1 (encI .i64) l5238), (7, Own.rows ad1093 cap1094 63 5 css1095 t1089.2.1), (2, cel b1090 133 [.slice ad1098 t1089.2.2.1.length cap1099, .int .i64 r_2.out, .int .i64 r_2.within, mp1102, .slice ad1105 t1089.2.2.2.2.1.length cap1106, .slice ad1093 t1089.2.1.length cap1094, .slice ad1091 t1089.1.length cap1092, .slice ad1109 t1089.2.2.2.2.2.length cap1110]), (1, Own.list ad1109 cap1110 31 1 (encI .i64) t1089.2.2.2.2.2)] w ∧ Has [] 79 a [(6, .pointer (some q16)), (12, .pointer (some (⟨b5242, 0, none⟩))), (14, .func (.func 67) [].toArray [.pointer (some (⟨b5243, 0, none⟩)), .pointer (some (⟨b5242, 0, none⟩)), .pointer (some q5235)].toArray)] ∧ Rows (RSegment) 3 K5848 css5847 e5842.2) ?_ ?_
   ·refine bk ?_
    refine lp hl5843 (fun s5850 a w => ∃ (ad5851 : Option Addr) (cap5852 : Nat) (css5853 : List (List Value)) (K5854 : Hp), St M W H [K5854, K5236, K1096, K1100, K1103, K1107, K20, K17, K14, H] [(13, Own.rows ad5851 cap5852 98 3 css5853 s5850.2.2), (10, cel b5243 3 [.int .i64 s5850.2.1]), (9, cel b5242 91 [.slice ad5851 s5850.2.2.length cap5852]), (8, Own.list ad1091 cap1092 3 1 (encI .i64) l5238), (7, Own.rows ad1093 cap1094 63 5 css1095 t1089.2.1), (2, cel b1090 133 [.slice ad1098 t1089.2.2.1.length cap1099, .int .i64 r_2.out, .int .i64 r_2.within, mp1102, .slice ad1105 t1089.2.2.2.2.1.length cap1106, .slice ad1093 t1089.2.1.length cap1094, .slice ad1091 t1089.1.length cap1092, .slice ad1109 t1089.2.2.2.2.2.length cap1110]), (1, Own.list ad1109 cap1110 31 1 (encI .i64) t1089.2.2.2.2.2)] w ∧ Has [] 79 a [(6, .pointer (some q16)), (7, .pointer (some q19)), (10, .pointer (some q5235)), (12, .pointer (some (⟨b5242, 0, none⟩))), (13, .pointer (some (⟨b5243, 0, none⟩))), (14, .func (.func 67) [].toArray [.pointer (some (⟨b5243, 0, none⟩)), .pointer (some (⟨b5242, 0, none⟩)), .pointer (some q5235)].toArray), (39, .slice ad1091 t1089.1.length cap1092), (40, .int .i64 (t1089.1.length : Int)), (41, .int .i64 (s5850.1 : Int))] ∧ Rows (RSegment) 3 K5854 css5853 s5850.2.2) ?_ ?_
    ·intro a w hS hA
     exact ⟨none, 0, [], H, hS.selH [8, 0, 1, 2, 3, 4, 5, 6, 7, 8] rfl, hA.cut ⟨rfl, rfl, rfl, rfl, rfl, rfl, rfl, rfl, rfl, tv⟩, hR5455⟩
    ·rintro j s5850 y5858 hr5856 hz5857 a w ⟨ad5851, cap5852, css5853, K5854, hS, hA, hR5855⟩
     refine TG.ap ?_ hS hA
     unfold m42_10 at hr5856
     refine sq (rg (ltI rfl rfl rfl (on (sq ?_))))
     refine ci rfl (fun hc5862 => ?_) (fun hc5862 => ?_)
     ·have hr5863 := if_p hc5862 hr5856
      refine sk (sq (bk (sq (rg ?_))))
      obtain ⟨x5982, hx5983, hr5984⟩ := bd_some hr5863
      refine TG.addr 8 rfl (lt_of0 hx5983) fun b5985 h => ?_; subst h
      refine iaP U86 Z3 rfl rfl rfl rfl (Nat.lt_of_lt_of_eq (lt_of hx5983) hln5241) (ld G3 rfl rfl (sE 8 rfl (fun _ => rfl) hx5983) rfl (a1 rfl (on (sq (rg (ld G64 rfl rfl (sS 6 rfl hK21) rfl (m1 rfl ?_)))))))
      obtain ⟨hk5986, hr5987⟩ := chk_some hr5984
      obtain ⟨x5988, hx5989, hr5990⟩ := bd_some hr5987
      obtain ⟨p5991, rfl⟩ := h_requests.adr hx5989
      obtain ⟨cs5992, hcs5993, hq5994, hr5995⟩ := h_requests.at hx5989
      have hr5996 := hr5995
      obtain ⟨ad5997, cap5998, rfl, hl5999⟩ := hr5995
      have := hl5999.len
      refine iaP U64 Z63 rfl rfl rfl (by omega) (lt_of hx5989) (ldA G63 Z63 rfl rfl (sS 9 rfl hq5994) rfl (va (cs := [.int .i64 x5988.by_, .int .i64 x5988.minute, .int .i64 x5988.from_, .int .i64 x5988.cut, .slice ad5997 x5988.put_.length cap5998]) Tryz.zeroValue63 Z63 rfl rfl rfl rfl rfl rfl rfl rfl fun q6000 K6001 hK6002 => (on (sq (rg (m1 rfl (fb 2 U63 rfl rfl rfl rfl Z3 (ld G3 rfl rfl (((sS 0 rfl hK6002).drop 2).take 1) rfl ?_))))))))
      obtain ⟨t6049, hx6050, hr6051⟩ := bd_some hr5990
      refine clI C67 Tryz.func67 rfl Tryz.ntmps67 rfl rfl rfl rfl (fun v w => (∃ (ad6052 : Option Addr) (cap6053 : Nat) (css6054 : List (List Value)) (K6055 : Hp), v = .tuple #[] ∧ St M W H [K6055, K6001, K5854, K5236, K1096, K1100, K1103, K1107, K20, K17, K14, H] [(13, Own.rows ad6052 cap6053 98 3 css6054 t6049), (10, cel b5243 3 [.int .i64 s5850.2.1]), (9, cel b5242 91 [.slice ad6052 t6049.length cap6053]), (8, Own.list (some ⟨b5985, 0, none⟩) cap1092 3 1 (encI .i64) l5238), (7, Own.rows ad1093 cap1094 63 5 css1095 t1089.2.1), (2, cel b1090 133 [.slice ad1098 t1089.2.2.1.length cap1099, .int .i64 r_2.out, .int .i64 r_2.within, mp1102, .slice ad1105 t1089.2.2.2.2.1.length cap1106, .slice ad1093 t1089.2.1.length cap1094, .slice (some ⟨b5985, 0, none⟩) t1089.1.length cap1092, .slice ad1109 t1089.2.2.2.2.2.length cap1110]), (1, Own.list ad1109 cap1110 31 1 (encI .i64) t1089.2.2.2.2.2)] w ∧ Rows (RSegment) 3 K6055 css6054 t6049)) ?_ ?_
      ·refine sq (rg (ld G3 rfl rfl (sO 10 rfl) rfl (m1 rfl (ltI rfl rfl rfl (on ?_)))))
       obtain ⟨t6097, hx6098, hr6099⟩ := bd_some hx6050
       refine jn (fun a w => ∃ (ad6100 : Option Addr) (cap6101 : Nat) (css6102 : List (List Value)) (K6103 : Hp), St M W H [K6103, K6001, K5854, K5236, K1096, K1100, K1103, K1107, K20, K17, K14, H] [(13, Own.rows ad6100 cap6101 98 3 css6102 t6097), (10, cel b5243 3 [.int .i64 s5850.2.1]), (9, cel b5242 91 [.slice ad6100 t6097.length cap6101]), (8, Own.list (some ⟨b5985, 0, none⟩) cap1092 3 1 (encI .i64) l5238), (7, Own.rows ad1093 cap1094 63 5 css1095 t1089.2.1), (2, cel b1090 133 [.slice ad1098 t1089.2.2.1.length cap1099, .int .i64 r_2.out, .int .i64 r_2.within, mp1102, .slice ad1105 t1089.2.2.2.2.1.length cap1106, .slice ad1093 t1089.2.1.length cap1094, .slice (some ⟨b5985, 0, none⟩) t1089.1.length cap1092, .slice ad1109 t1089.2.2.2.2.2.length cap1110]), (1, Own.list ad1109 cap1110 31 1 (encI .i64) t1089.2.2.2.2.2)] w ∧ Has [] 26 a [] ∧ Rows (RSegment) 3 K6103 css6102 t6097) ?_ ?_
       ·refine ci rfl (fun hc6105 => ?_) (fun hc6105 => ?_)
        ·have hr6106 := if_p hc6105 hx6098
         obtain ⟨r6107, hx6108, hr6109⟩ := bd_some hr6106
         refine drG 17 mixed (by kernel_rfl) rfl (dt rfl (ld G91 rfl rfl (sO 9 rfl) rfl fin1) (dt rfl (ld G129 rfl rfl (sS 3 rfl hK5237) rfl fin1) (dt rfl (nl rfl rfl fin1) (dt rfl (fb 0 U133 rfl rfl rfl rfl Z56 fin1) (dt rfl (ldA G56 Z56 rfl rfl ((sO 2 rfl).take 3) rfl fin1) (dt rfl (ld G3 rfl rfl (sO 10 rfl) rfl fin1) (dt rfl (m1 rfl fin1) ?_)))))))
         refine DF.und (α := Option Addr × Nat) (none, 0) (fun q => .slice q.1 r6107.length q.2) (fun (q : Option Addr × Nat) K => Sl (Flat encS) 1 K q.1 q.2 r6107) (fun _ _ _ h x => x.mono (Flat.mono _) h) (by kernel_rfl) rfl (fun a w K hS hA hF => TG.pa hS hA (clK C68 rfl rfl rfl rfl (fun w H hH le => w68 hH (⟨t1089.2.2.1, r_2.out, r_2.within⟩ : Report) ⟨_, _, rfl, (hl1101.mono (Flat.mono _) (le.at 5 rfl))⟩ s5850.2.1 x5988.from_ hx6108) (by
           rintro v_ K6110 ⟨ad6111, cap6112, rfl, hl6113⟩
           exact finU (f := fun q => .slice q.1 r6107.length q.2) (G := (fun (q : Option Addr × Nat) K => Sl (Flat encS) 1 K q.1 q.2 r6107)) (_, _) (fun _ _ _ h x => x.mono (Flat.mono _) h) hl6113))) ?_
         rintro ⟨ad6115, cap6116⟩
         refine dt rfl (ld G129 rfl rfl (sS 3 rfl hK5237) rfl fin1) (dt rfl (nl rfl rfl fin1) (dt rfl (fb 0 U133 rfl rfl rfl rfl Z56 fin1) (dt rfl (ldA G56 Z56 rfl rfl ((sO 2 rfl).take 3) rfl fin1) (dt rfl (ld G3 rfl rfl (sO 10 rfl) rfl fin1) (dt rfl (m1 rfl fin1) ?_)))))
         refine DF.und (α := Option Addr × Nat) (none, 0) (fun q => .slice q.1 r6107.length q.2) (fun (q : Option Addr × Nat) K => Sl (Flat encS) 1 K q.1 q.2 r6107) (fun _ _ _ h x => x.mono (Flat.mono _) h) (by kernel_rfl) rfl (fun a w K hS hA hF => TG.pa hS hA (clK C68 rfl rfl rfl rfl (fun w H hH le => w68 hH (⟨t1089.2.2.1, r_2.out, r_2.within⟩ : Report) ⟨_, _, rfl, (hl1101.mono (Flat.mono _) (le.at 5 rfl))⟩ s5850.2.1 x5988.from_ hx6108) (by
           rintro v_ K6117 ⟨ad6118, cap6119, rfl, hl6120⟩
           exact finU (f := fun q => .slice q.1 r6107.length q.2) (G := (fun (q : Option Addr × Nat) K => Sl (Flat encS) 1 K q.1 q.2 r6107)) (_, _) (fun _ _ _ h x => x.mono (Flat.mono _) h) hl6120))) ?_
         rintro ⟨ad6122, cap6123⟩
         refine DF.und () (fun _ => .agg [.slice ad6115 r6107.length cap6116, .slice ad6122 r6107.length cap6123, .int .i64 (-1)].toArray) (fun _ K => Sl (Flat encS) 1 K ad6115 cap6116 r6107 ∧ Sl (Flat encS) 1 K ad6122 cap6123 r6107) (fun _ _ _ h x => ⟨x.1.mono (Flat.mono _) h, x.2.mono (Flat.mono _) h⟩) (by kernel_rfl) rfl (fun a w K hS hA hF => TG.pa hS hA (bu (cs := [.slice ad6115 r6107.length cap6116, .slice ad6122 r6107.length cap6123, .int .i64 (-1)]) T4.B98 rfl rfl rfl (finF (f := fun _ => .agg [.slice ad6115 r6107.length cap6116, .slice ad6122 r6107.length cap6123, .int .i64 (-1)].toArray) (G := fun _ K => Sl (Flat encS) 1 K ad6115 cap6116 r6107 ∧ Sl (Flat encS) 1 K ad6122 cap6123 r6107) () ⟨(hF.2.1 rfl), (hF.1 rfl)⟩))) fun _ => ?_
         refine DF.und (α := Option Addr × Nat) (none, 0) (fun q => .slice q.1 1 q.2) (fun (q : Option Addr × Nat) K => Sl (RSegment) 3 K q.1 q.2 ([(⟨r6107, r6107, (-1)⟩ : Segment)] : List Segment)) (fun _ _ _ h x => x.mono (RSegment.mono) h) (by kernel_rfl) rfl (fun a w K hS hA hF => TG.pa hS hA (bS (cs := [.slice ad6115 r6107.length cap6116, .slice ad6122 r6107.length cap6123, .int .i64 (-1)]) T4.E91 rfl rfl rfl rfl fun q6125 K6126 hq6127 hK6128 => by
           refine TG.pack (fun K => Sl (RSegment) 3 K (some q6125) 1 ([(⟨r6107, r6107, (-1)⟩ : Segment)] : List Segment)) (fun H le => Sl.litR (css := [[.slice ad6115 r6107.length cap6116, .slice ad6122 r6107.length cap6123, .int .i64 (-1)]]) (l := ([(⟨r6107, r6107, (-1)⟩ : Segment)] : List Segment)) ⟨⟨rfl, rfl, ⟨_, _, _, _, rfl, ((hF.1 rfl).1.mono (Flat.mono _) (le.at 1 rfl)), ((hF.1 rfl).2.mono (Flat.mono _) (le.at 1 rfl))⟩⟩, tv⟩ hq6127 (hK6128.mono (le.at 0 rfl)) rfl) fun K6130 hl6129 => ?_
           have := hl6129.len
           refine sk1 ?_
           exact finU (f := fun q => .slice q.1 1 q.2) (G := (fun (q : Option Addr × Nat) K => Sl (RSegment) 3 K q.1 q.2 ([(⟨r6107, r6107, (-1)⟩ : Segment)] : List Segment))) (_, _) (fun _ _ _ h x => x.mono (RSegment.mono) h) hl6129)) ?_
         rintro ⟨ad6132, cap6133⟩
         refine DF.nil fun K6134 hF => ?_
         obtain ⟨hu6131, hu6124, hu6121, hu6114, _⟩ := hF
         have := hu6114.len
         have := hu6121.len
         have := hu6131.len
         obtain ⟨hk6135, hr6136⟩ := chk_some hr6109
         have := lenA s5850.2.2 ([(⟨r6107, r6107, (-1)⟩ : Segment)] : List Segment)
         refine TG.pack (fun K => Sl (RSegment) 3 K ad6132 cap6133 ([(⟨r6107, r6107, (-1)⟩ : Segment)] : List Segment) ∧ Rows (RSegment) 3 K css5853 s5850.2.2) (fun H le => ⟨hu6131.mono (RSegment.mono) (le.at 0 rfl), hR5855.mono (RSegment.mono) (le.at 2 rfl)⟩) fun K6139 ⟨hm6140, hR6141⟩ => (apR 13 (l := s5850.2.2) (m := ([(⟨r6107, r6107, (-1)⟩ : Segment)] : List Segment)) T4.E91 rfl rfl rfl rfl rfl rfl hm6140 hR6141 RSegment.one rfl hk6135 fun ad6137 cap6138 css6143 hR6142 => (sto 9 (cs := [.slice ad6137 ((s5850.2.2 ++ ([(⟨r6107, r6107, (-1)⟩ : Segment)] : List Segment)).length) cap6138]) Z91 rfl rfl rfl rfl rfl rfl rfl (on ?_)))
         cases hr6136
         intro a w hS hA
         exact ⟨ad6137, cap6138, css6143, K6139, hS.selH [0, 2, 3, 4, 5, 6, 7, 8, 9, 10, 11, 12] rfl, hA.cut tv, hR6142⟩
        ·have hr6144 := if_n hc6105 hx6098
         refine sk ?_
         cases hr6144
         intro a w hS hA
         exact ⟨ad5851, cap5852, css5853, K5854, hS.selH [1, 0, 1, 2, 3, 4, 5, 6, 7, 8, 9, 10] rfl, hA.cut tv, hR5855⟩
       ·rintro a w ⟨ad6100, cap6101, css6102, K6103, hS, hA, hR6104⟩
        refine TG.ap ?_ hS hA
        cases hr6099
        intro a w hS hA
        refine ret0 hA rfl ?_
        exact ⟨_, rfl, ⟨ad6100, cap6101, css6102, K6103, rfl, hS, hR6104⟩⟩
      ·rintro a w v hA (⟨ad6052, cap6053, css6054, K6055, rfl, hS, hR6056⟩)
       refine putK rfl hA hS (on (sq ?_))
       obtain ⟨r6145, hx6146, hr6147⟩ := bd_some hr6051
       obtain ⟨r6148, hx6149, hr6150⟩ := bd_some hr6147
       obtain ⟨r6158, hx6159, hr6160⟩ := bd_some hr6150
       refine drG 16 mixed (by kernel_rfl) rfl (dt rfl (ld G91 rfl rfl (sO 9 rfl) rfl fin1) (dt rfl (ld G129 rfl rfl (sS 4 rfl hK5237) rfl fin1) (dt rfl (nl rfl rfl fin1) (dt rfl (fb 0 U133 rfl rfl rfl rfl Z56 fin1) (dt rfl (ldA G56 Z56 rfl rfl ((sO 2 rfl).take 3) rfl fin1) (dt rfl (fb 2 U63 rfl rfl rfl rfl Z3 fin1) (dt rfl (ld G3 rfl rfl (((sS 2 rfl hK6002).drop 2).take 1) rfl fin1) (dt rfl (ldA G63 Z63 rfl rfl (sS 2 rfl hK6002) rfl fin1) (dt rfl (clS C69 rfl rfl rfl rfl (fun w H hH le => w69 hH x5988 (RRequest.mono _ _ _ _ (le.at 12 rfl) hr5996) hx6146) fin1) ?_)))))))))
       refine DF.und (α := Option Addr × Nat) (none, 0) (fun q => .slice q.1 r6148.length q.2) (fun (q : Option Addr × Nat) K => Sl (Flat encS) 1 K q.1 q.2 r6148) (fun _ _ _ h x => x.mono (Flat.mono _) h) (by kernel_rfl) rfl (fun a w K hS hA hF => TG.pa hS hA (clK C68 rfl rfl rfl rfl (fun w H hH le => w68 hH (⟨t1089.2.2.1, r_2.out, r_2.within⟩ : Report) ⟨_, _, rfl, (hl1101.mono (Flat.mono _) (le.at 6 rfl))⟩ x5988.from_ r6145 hx6149) (by
         rintro v_ K6151 ⟨ad6152, cap6153, rfl, hl6154⟩
         exact finU (f := fun q => .slice q.1 r6148.length q.2) (G := (fun (q : Option Addr × Nat) K => Sl (Flat encS) 1 K q.1 q.2 r6148)) (_, _) (fun _ _ _ h x => x.mono (Flat.mono _) h) hl6154))) ?_
       rintro ⟨ad6156, cap6157⟩
       refine dt rfl (fb 4 U63 rfl rfl rfl rfl Z24 fin1) (dt rfl (ld G24 rfl rfl ((sS 2 rfl hK6002).drop 4) rfl fin1) ?_)
       refine DF.und (α := Option Addr × Nat) (none, 0) (fun q => .slice q.1 r6158.length q.2) (fun (q : Option Addr × Nat) K => Sl (Flat encS) 1 K q.1 q.2 r6158) (fun _ _ _ h x => x.mono (Flat.mono _) h) (by kernel_rfl) rfl (fun a w K hS hA hF => TG.pa hS hA (clK C70 rfl rfl rfl rfl (fun w H hH le => w70 hH (hl5999.mono (Flat.mono _) (le.at 12 rfl)) hx6159) (by
         rintro v_ K6161 ⟨ad6162, cap6163, rfl, hl6164⟩
         exact finU (f := fun q => .slice q.1 r6158.length q.2) (G := (fun (q : Option Addr × Nat) K => Sl (Flat encS) 1 K q.1 q.2 r6158)) (_, _) (fun _ _ _ h x => x.mono (Flat.mono _) h) hl6164))) ?_
       rintro ⟨ad6166, cap6167⟩
       refine dt rfl (m1 rfl fin1) (DF.und () (fun _ => .agg [.slice ad6156 r6148.length cap6157, .slice ad6166 r6158.length cap6167, .int .i64 x5982].toArray) (fun _ K => Sl (Flat encS) 1 K ad6156 cap6157 r6148 ∧ Sl (Flat encS) 1 K ad6166 cap6167 r6158) (fun _ _ _ h x => ⟨x.1.mono (Flat.mono _) h, x.2.mono (Flat.mono _) h⟩) (by kernel_rfl) rfl (fun a w K hS hA hF => TG.pa hS hA (bu (cs := [.slice ad6156 r6148.length cap6157, .slice ad6166 r6158.length cap6167, .int .i64 x5982]) T4.B98 rfl rfl rfl (finF (f := fun _ => .agg [.slice ad6156 r6148.length cap6157, .slice ad6166 r6158.length cap6167, .int .i64 x5982].toArray) (G := fun _ K => Sl (Flat encS) 1 K ad6156 cap6157 r6148 ∧ Sl (Flat encS) 1 K ad6166 cap6167 r6158) () ⟨(hF.2.1 rfl), (hF.1 rfl)⟩))) fun _ => ?_)
       refine DF.und (α := Option Addr × Nat) (none, 0) (fun q => .slice q.1 1 q.2) (fun (q : Option Addr × Nat) K => Sl (RSegment) 3 K q.1 q.2 ([(⟨r6148, r6158, x5982⟩ : Segment)] : List Segment)) (fun _ _ _ h x => x.mono (RSegment.mono) h) (by kernel_rfl) rfl (fun a w K hS hA hF => TG.pa hS hA (bS (cs := [.slice ad6156 r6148.length cap6157, .slice ad6166 r6158.length cap6167, .int .i64 x5982]) T4.E91 rfl rfl rfl rfl fun q6169 K6170 hq6171 hK6172 => by
         refine TG.pack (fun K => Sl (RSegment) 3 K (some q6169) 1 ([(⟨r6148, r6158, x5982⟩ : Segment)] : List Segment)) (fun H le => Sl.litR (css := [[.slice ad6156 r6148.length cap6157, .slice ad6166 r6158.length cap6167, .int .i64 x5982]]) (l := ([(⟨r6148, r6158, x5982⟩ : Segment)] : List Segment)) ⟨⟨rfl, rfl, ⟨_, _, _, _, rfl, ((hF.1 rfl).1.mono (Flat.mono _) (le.at 1 rfl)), ((hF.1 rfl).2.mono (Flat.mono _) (le.at 1 rfl))⟩⟩, tv⟩ hq6171 (hK6172.mono (le.at 0 rfl)) rfl) fun K6174 hl6173 => ?_
         have := hl6173.len
         refine sk1 ?_
         exact finU (f := fun q => .slice q.1 1 q.2) (G := (fun (q : Option Addr × Nat) K => Sl (RSegment) 3 K q.1 q.2 ([(⟨r6148, r6158, x5982⟩ : Segment)] : List Segment))) (_, _) (fun _ _ _ h x => x.mono (RSegment.mono) h) hl6173)) ?_
       rintro ⟨ad6176, cap6177⟩
       refine DF.nil fun K6178 hF => ?_
       obtain ⟨hu6175, hu6168, hu6165, hu6155, _⟩ := hF
       have := hu6155.len
       have := hu6165.len
       have := hu6175.len
       obtain ⟨hk6179, hr6180⟩ := chk_some hr6160
       have := lenA t6049 ([(⟨r6148, r6158, x5982⟩ : Segment)] : List Segment)
       refine TG.pack (fun K => Sl (RSegment) 3 K ad6176 cap6177 ([(⟨r6148, r6158, x5982⟩ : Segment)] : List Segment) ∧ Rows (RSegment) 3 K css6054 t6049) (fun H le => ⟨hu6175.mono (RSegment.mono) (le.at 0 rfl), hR6056.mono (RSegment.mono) (le.at 1 rfl)⟩) fun K6183 ⟨hm6184, hR6185⟩ => (apR 13 (l := t6049) (m := ([(⟨r6148, r6158, x5982⟩ : Segment)] : List Segment)) T4.E91 rfl rfl rfl rfl rfl rfl hm6184 hR6185 RSegment.one rfl hk6179 fun ad6181 cap6182 css6187 hR6186 => (sto 9 (cs := [.slice ad6181 ((t6049 ++ ([(⟨r6148, r6158, x5982⟩ : Segment)] : List Segment)).length) cap6182]) Z91 rfl rfl rfl rfl rfl rfl rfl (on (rg (ldA G63 Z63 rfl rfl (sS 3 rfl hK6002) rfl (clS C69 rfl rfl rfl rfl (fun w H hH le => w69 hH x5988 (RRequest.mono _ _ _ _ (le.at 13 rfl) hr5996) hx6146) (sto 10 (cs := [.int .i64 r6145]) Z3 rfl rfl rfl rfl rfl rfl rfl (on (rg (adI rfl rfl rfl (by omega) (m1 rfl ?_)))))))))))
       refine on ?_
       cases hr6180
       intro a w hS hA
       exact ⟨_, hz5857, ad6181, cap6182, css6187, K6183, hS.selH [0, 5, 6, 7, 8, 9, 10, 11, 12, 13] rfl, hA.cut ⟨rfl, rfl, rfl, rfl, rfl, rfl, rfl, rfl, rfl, tv⟩, hR6186⟩
     ·have hr6188 := if_n hc5862 hr5856
      refine xt rfl ?_
      cases hr6188
      obtain rfl := Fin.out hz5857
      intro a w hS hA
      exact ⟨ad5851, cap5852, css5853, K5854, hS, hA.cut ⟨rfl, rfl, rfl, tv⟩, hR5855⟩
   ·rintro a w ⟨ad5845, cap5846, css5847, K5848, hS, hA, hR5849⟩
    refine TG.ap ?_ hS hA
    refine sq (rg (m1 rfl (fb 0 U56 rfl rfl rfl rfl Z54 (ld G54 rfl rfl ((sS 7 rfl hK18).take 1) rfl (lnL U54 rfl rfl ?_)))))
    obtain ⟨t6235, hx6236, hr6237⟩ := bd_some hr5844
    refine clI C67 Tryz.func67 rfl Tryz.ntmps67 rfl rfl rfl rfl (fun v w => (∃ (ad6238 : Option Addr) (cap6239 : Nat) (css6240 : List (List Value)) (K6241 : Hp), v = .tuple #[] ∧ St M W H [K6241, K5848, K5236, K1096, K1100, K1103, K1107, K20, K17, K14, H] [(13, Own.rows ad6238 cap6239 98 3 css6240 t6235), (10, cel b5243 3 [.int .i64 e5842.1]), (9, cel b5242 91 [.slice ad6238 t6235.length cap6239]), (8, Own.list ad1091 cap1092 3 1 (encI .i64) l5238), (7, Own.rows ad1093 cap1094 63 5 css1095 t1089.2.1), (2, cel b1090 133 [.slice ad1098 t1089.2.2.1.length cap1099, .int .i64 r_2.out, .int .i64 r_2.within, mp1102, .slice ad1105 t1089.2.2.2.2.1.length cap1106, .slice ad1093 t1089.2.1.length cap1094, .slice ad1091 t1089.1.length cap1092, .slice ad1109 t1089.2.2.2.2.2.length cap1110]), (1, Own.list ad1109 cap1110 31 1 (encI .i64) t1089.2.2.2.2.2)] w ∧ Rows (RSegment) 3 K6241 css6240 t6235)) ?_ ?_
    ·refine sq (rg (ld G3 rfl rfl (sO 10 rfl) rfl (m1 rfl (ltI rfl rfl rfl (on ?_)))))
     obtain ⟨t6283, hx6284, hr6285⟩ := bd_some hx6236
     refine jn (fun a w => ∃ (ad6286 : Option Addr) (cap6287 : Nat) (css6288 : List (List Value)) (K6289 : Hp), St M W H [K6289, K5848, K5236, K1096, K1100, K1103, K1107, K20, K17, K14, H] [(13, Own.rows ad6286 cap6287 98 3 css6288 t6283), (10, cel b5243 3 [.int .i64 e5842.1]), (9, cel b5242 91 [.slice ad6286 t6283.length cap6287]), (8, Own.list ad1091 cap1092 3 1 (encI .i64) l5238), (7, Own.rows ad1093 cap1094 63 5 css1095 t1089.2.1), (2, cel b1090 133 [.slice ad1098 t1089.2.2.1.length cap1099, .int .i64 r_2.out, .int .i64 r_2.within, mp1102, .slice ad1105 t1089.2.2.2.2.1.length cap1106, .slice ad1093 t1089.2.1.length cap1094, .slice ad1091 t1089.1.length cap1092, .slice ad1109 t1089.2.2.2.2.2.length cap1110]), (1, Own.list ad1109 cap1110 31 1 (encI .i64) t1089.2.2.2.2.2)] w ∧ Has [] 26 a [] ∧ Rows (RSegment) 3 K6289 css6288 t6283) ?_ ?_
     ·refine ci rfl (fun hc6291 => ?_) (fun hc6291 => ?_)
      ·have hr6292 := if_p hc6291 hx6284
       obtain ⟨r6293, hx6294, hr6295⟩ := bd_some hr6292
       refine drG 17 mixed (by kernel_rfl) rfl (dt rfl (ld G91 rfl rfl (sO 9 rfl) rfl fin1) (dt rfl (ld G129 rfl rfl (sS 2 rfl hK5237) rfl fin1) (dt rfl (nl rfl rfl fin1) (dt rfl (fb 0 U133 rfl rfl rfl rfl Z56 fin1) (dt rfl (ldA G56 Z56 rfl rfl ((sO 2 rfl).take 3) rfl fin1) (dt rfl (ld G3 rfl rfl (sO 10 rfl) rfl fin1) (dt rfl (m1 rfl fin1) ?_)))))))
       refine DF.und (α := Option Addr × Nat) (none, 0) (fun q => .slice q.1 r6293.length q.2) (fun (q : Option Addr × Nat) K => Sl (Flat encS) 1 K q.1 q.2 r6293) (fun _ _ _ h x => x.mono (Flat.mono _) h) (by kernel_rfl) rfl (fun a w K hS hA hF => TG.pa hS hA (clK C68 rfl rfl rfl rfl (fun w H hH le => w68 hH (⟨t1089.2.2.1, r_2.out, r_2.within⟩ : Report) ⟨_, _, rfl, (hl1101.mono (Flat.mono _) (le.at 4 rfl))⟩ e5842.1 (r_2.words.length : Int) hx6294) (by
         rintro v_ K6296 ⟨ad6297, cap6298, rfl, hl6299⟩
         exact finU (f := fun q => .slice q.1 r6293.length q.2) (G := (fun (q : Option Addr × Nat) K => Sl (Flat encS) 1 K q.1 q.2 r6293)) (_, _) (fun _ _ _ h x => x.mono (Flat.mono _) h) hl6299))) ?_
       rintro ⟨ad6301, cap6302⟩
       refine dt rfl (ld G129 rfl rfl (sS 2 rfl hK5237) rfl fin1) (dt rfl (nl rfl rfl fin1) (dt rfl (fb 0 U133 rfl rfl rfl rfl Z56 fin1) (dt rfl (ldA G56 Z56 rfl rfl ((sO 2 rfl).take 3) rfl fin1) (dt rfl (ld G3 rfl rfl (sO 10 rfl) rfl fin1) (dt rfl (m1 rfl fin1) ?_)))))
       refine DF.und (α := Option Addr × Nat) (none, 0) (fun q => .slice q.1 r6293.length q.2) (fun (q : Option Addr × Nat) K => Sl (Flat encS) 1 K q.1 q.2 r6293) (fun _ _ _ h x => x.mono (Flat.mono _) h) (by kernel_rfl) rfl (fun a w K hS hA hF => TG.pa hS hA (clK C68 rfl rfl rfl rfl (fun w H hH le => w68 hH (⟨t1089.2.2.1, r_2.out, r_2.within⟩ : Report) ⟨_, _, rfl, (hl1101.mono (Flat.mono _) (le.at 4 rfl))⟩ e5842.1 (r_2.words.length : Int) hx6294) (by
         rintro v_ K6303 ⟨ad6304, cap6305, rfl, hl6306⟩
         exact finU (f := fun q => .slice q.1 r6293.length q.2) (G := (fun (q : Option Addr × Nat) K => Sl (Flat encS) 1 K q.1 q.2 r6293)) (_, _) (fun _ _ _ h x => x.mono (Flat.mono _) h) hl6306))) ?_
       rintro ⟨ad6308, cap6309⟩
       refine DF.und () (fun _ => .agg [.slice ad6301 r6293.length cap6302, .slice ad6308 r6293.length cap6309, .int .i64 (-1)].toArray) (fun _ K => Sl (Flat encS) 1 K ad6301 cap6302 r6293 ∧ Sl (Flat encS) 1 K ad6308 cap6309 r6293) (fun _ _ _ h x => ⟨x.1.mono (Flat.mono _) h, x.2.mono (Flat.mono _) h⟩) (by kernel_rfl) rfl (fun a w K hS hA hF => TG.pa hS hA (bu (cs := [.slice ad6301 r6293.length cap6302, .slice ad6308 r6293.length cap6309, .int .i64 (-1)]) T4.B98 rfl rfl rfl (finF (f := fun _ => .agg [.slice ad6301 r6293.length cap6302, .slice ad6308 r6293.length cap6309, .int .i64 (-1)].toArray) (G := fun _ K => Sl (Flat encS) 1 K ad6301 cap6302 r6293 ∧ Sl (Flat encS) 1 K ad6308 cap6309 r6293) () ⟨(hF.2.1 rfl), (hF.1 rfl)⟩))) fun _ => ?_
       refine DF.und (α := Option Addr × Nat) (none, 0) (fun q => .slice q.1 1 q.2) (fun (q : Option Addr × Nat) K => Sl (RSegment) 3 K q.1 q.2 ([(⟨r6293, r6293, (-1)⟩ : Segment)] : List Segment)) (fun _ _ _ h x => x.mono (RSegment.mono) h) (by kernel_rfl) rfl (fun a w K hS hA hF => TG.pa hS hA (bS (cs := [.slice ad6301 r6293.length cap6302, .slice ad6308 r6293.length cap6309, .int .i64 (-1)]) T4.E91 rfl rfl rfl rfl fun q6311 K6312 hq6313 hK6314 => by
         refine TG.pack (fun K => Sl (RSegment) 3 K (some q6311) 1 ([(⟨r6293, r6293, (-1)⟩ : Segment)] : List Segment)) (fun H le => Sl.litR (css := [[.slice ad6301 r6293.length cap6302, .slice ad6308 r6293.length cap6309, .int .i64 (-1)]]) (l := ([(⟨r6293, r6293, (-1)⟩ : Segment)] : List Segment)) ⟨⟨rfl, rfl, ⟨_, _, _, _, rfl, ((hF.1 rfl).1.mono (Flat.mono _) (le.at 1 rfl)), ((hF.1 rfl).2.mono (Flat.mono _) (le.at 1 rfl))⟩⟩, tv⟩ hq6313 (hK6314.mono (le.at 0 rfl)) rfl) fun K6316 hl6315 => ?_
         have := hl6315.len
         refine sk1 ?_
         exact finU (f := fun q => .slice q.1 1 q.2) (G := (fun (q : Option Addr × Nat) K => Sl (RSegment) 3 K q.1 q.2 ([(⟨r6293, r6293, (-1)⟩ : Segment)] : List Segment))) (_, _) (fun _ _ _ h x => x.mono (RSegment.mono) h) hl6315)) ?_
       rintro ⟨ad6318, cap6319⟩
       refine DF.nil fun K6320 hF => ?_
       obtain ⟨hu6317, hu6310, hu6307, hu6300, _⟩ := hF
       have := hu6300.len
       have := hu6307.len
       have := hu6317.len
       obtain ⟨hk6321, hr6322⟩ := chk_some hr6295
       have := lenA e5842.2 ([(⟨r6293, r6293, (-1)⟩ : Segment)] : List Segment)
       refine TG.pack (fun K => Sl (RSegment) 3 K ad6318 cap6319 ([(⟨r6293, r6293, (-1)⟩ : Segment)] : List Segment) ∧ Rows (RSegment) 3 K css5847 e5842.2) (fun H le => ⟨hu6317.mono (RSegment.mono) (le.at 0 rfl), hR5849.mono (RSegment.mono) (le.at 1 rfl)⟩) fun K6325 ⟨hm6326, hR6327⟩ => (apR 13 (l := e5842.2) (m := ([(⟨r6293, r6293, (-1)⟩ : Segment)] : List Segment)) T4.E91 rfl rfl rfl rfl rfl rfl hm6326 hR6327 RSegment.one rfl hk6321 fun ad6323 cap6324 css6329 hR6328 => (sto 9 (cs := [.slice ad6323 ((e5842.2 ++ ([(⟨r6293, r6293, (-1)⟩ : Segment)] : List Segment)).length) cap6324]) Z91 rfl rfl rfl rfl rfl rfl rfl (on ?_)))
       cases hr6322
       intro a w hS hA
       exact ⟨ad6323, cap6324, css6329, K6325, hS.selH [0, 2, 3, 4, 5, 6, 7, 8, 9, 10, 11] rfl, hA.cut tv, hR6328⟩
      ·have hr6330 := if_n hc6291 hx6284
       refine sk ?_
       cases hr6330
       intro a w hS hA
       exact ⟨ad5845, cap5846, css5847, K5848, hS.selH [0, 0, 1, 2, 3, 4, 5, 6, 7, 8, 9] rfl, hA.cut tv, hR5849⟩
     ·rintro a w ⟨ad6286, cap6287, css6288, K6289, hS, hA, hR6290⟩
      refine TG.ap ?_ hS hA
      cases hr6285
      intro a w hS hA
      refine ret0 hA rfl ?_
      exact ⟨_, rfl, ⟨ad6286, cap6287, css6288, K6289, rfl, hS, hR6290⟩⟩
    ·rintro a w v hA (⟨ad6238, cap6239, css6240, K6241, rfl, hS, hR6242⟩)
     refine putK rfl hA hS (on (sq (rg (ld G91 rfl rfl (sO 9 rfl) rfl (a1 rfl (a1 rfl (on (rt_ ?_))))))))
     cases hr6237
     intro a w hS hA
     refine ret2 hA rfl rfl rfl ?_
     exact ⟨⟨_, _, rfl, (hS.rowsOut 13 rfl 0 rfl (RSegment.mono) hR6242)⟩, hS.ext⟩

theorem w45 {M : Prop} {W : World} {H : Hp} (hH : H.le (hp W)) (hg : Gv M H) {cs_l_0 : List Value} (l_0 : Lexicon) (h_l_0 : (RLexicon) H cs_l_0 l_0) {ad_list : Option Addr} {cap_list : Nat} {list : List Bytes} (h_list : Sl (Flat encS) 1 H ad_list cap_list list) {r : List Mark × Bool} (hr : m45 l_0 list = some r) : Calls Tryz.prog 45 [.agg cs_l_0.toArray, .slice ad_list list.length cap_list].toArray W (RetK M H W (fun v K => ∃ (ad0 : Option Addr) (cap0 : Nat), v = .tuple [.slice ad0 r.1.length cap0, .bool r.2].toArray ∧ Sl (Flat encMark) 2 K ad0 cap0 r.1)) := by
 have hh_l_0 := h_l_0
 obtain ⟨ad1, cap2, ad4, cap5, ad7, cap8, rfl, hl3, hl6, hl9⟩ := h_l_0
 have := hl3.len
 have := hl6.len
 have := hl9.len
 have := h_list.len
 unfold m45 at hr
 refine enterG (M := M) Tryz.func45 rfl Tryz.ntmps45 rfl hH ?_
 refine sq (rg (bI (cs := [.slice ad1 l_0.numbers.length cap2, .slice ad4 l_0.names.length cap5, .slice ad7 l_0.nots.length cap8]) rfl rfl rfl fun q10 K11 hK12 => (a1 rfl (a1 rfl (on (sq (rg (a1 rfl (on (sq (TG.nilRow 2 79 2 ?_)))))))))))
 refine TG.as 2 (z := Own.list none 0 79 2 encMark ([] : List Mark)) rfl rfl ?_
 obtain ⟨e225, hl226, hr227⟩ := bd_some hr
 refine jn (fun a w => ∃ t228, e225 = .inl t228 ∧ ∃ (ad229 : Option Addr) (cap230 : Nat), St M W H [K11, H] [(2, Own.list ad229 cap230 79 2 encMark t228)] w ∧ Has [] 35 a [(6, .slice ad229 t228.length cap230)]) ?_ ?_
 ·refine bk ?_
  refine lp hl226 (fun s231 a w => ∃ (ad232 : Option Addr) (cap233 : Nat) (K234 : Hp) (ad236 : Option Addr) (cap237 : Nat), St M W H [K234, K11, H] [(2, Own.list ad236 cap237 79 2 encMark s231.2)] w ∧ Has [] 35 a [(1, .slice ad232 s231.1.length cap233), (2, .pointer (some q10)), (6, .slice ad236 s231.2.length cap237)] ∧ Sl (Flat encS) 1 K234 ad232 cap233 s231.1) ?_ ?_
  ·intro a w hS hA
   exact ⟨ad_list, cap_list, H, none, 0, hS.selH [1, 0, 1] rfl, hA.cut ⟨rfl, rfl, rfl, tv⟩, h_list⟩
  ·rintro j s231 y240 hr238 hz239 a w ⟨ad232, cap233, K234, ad236, cap237, hS, hA, hl235⟩
   refine TG.ap ?_ hS hA
   unfold m45_1 at hr238
   have := hl235.len
   refine sq (sq (rg (m1 rfl (lnL U24 rfl rfl (gtI rfl rfl rfl (on ?_))))))
   refine ci rfl (fun hc244 => ?_) (fun hc244 => ?_)
   ·have hr245 := if_p hc244 hr238
    refine sk (bk (sq (rg (m1 rfl (lnL U24 rfl rfl (mn2 rfl rfl rfl (a1 rfl (on (sq ?_)))))))))
    obtain ⟨r308, hx309, hr310⟩ := bd_some hr245
    obtain ⟨hk316, hr317⟩ := chk_some hr310
    obtain ⟨r324, hx325, hr326⟩ := bd_some hr317
    obtain ⟨r334, hx335, hr336⟩ := bd_some hr326
    refine drG 11 mixed (by kernel_rfl) rfl (dt rfl (ldA G26 Z26 rfl rfl (sS 2 rfl hK12) rfl fin1) ?_)
    refine DF.und (α := List Value) [] (fun q => .agg q.toArray) (fun (q : List Value) K => (RLexicon) K q r308) (fun _ _ _ h x => RLexicon.mono _ _ _ _ h x) (by kernel_rfl) rfl (fun a w K hS hA hF => TG.pa hS hA (clK C19 rfl rfl rfl rfl (fun w H hH le => w19 hH l_0 (RLexicon.mono _ _ _ _ (le.at 3 rfl) hh_l_0) hx309) (by
      rintro v_ K311 ⟨cs312, rfl, hr313⟩
      exact finU (f := fun q => .agg q.toArray) (G := (fun (q : List Value) K => (RLexicon) K q r308)) _ (fun _ _ _ h x => RLexicon.mono _ _ _ _ h x) hr313))) fun cs315 => ?_
    refine dt rfl (m1 rfl fin1) (dt rfl (m1 rfl fin1) (DF.und (α := Option Addr × Nat) (none, 0) (fun q => .slice q.1 ((s231.1.take ((min 80 (s231.1.length : Int)).toNat)).length) q.2) (fun (q : Option Addr × Nat) K => Sl (Flat encS) 1 K q.1 q.2 (s231.1.take ((min 80 (s231.1.length : Int)).toNat))) (fun _ _ _ h x => x.mono (Flat.mono _) h) (by kernel_rfl) rfl (fun a w K hS hA hF => TG.pa hS hA (slT ((min 80 (s231.1.length : Int)).toNat) U24 Z9 hl235 rfl rfl rfl rfl (by omega) hk316 fun ad318 cap319 hl320 => TG.pack (fun K => Sl (Flat encS) 1 K ad318 cap319 (s231.1.take ((min 80 (s231.1.length : Int)).toNat))) (fun H le => hl320.mono (Flat.mono _) (le.at 1 rfl)) fun _ hl320 => finU (f := fun q => .slice q.1 ((s231.1.take ((min 80 (s231.1.length : Int)).toNat)).length) q.2) (G := (fun (q : Option Addr × Nat) K => Sl (Flat encS) 1 K q.1 q.2 (s231.1.take ((min 80 (s231.1.length : Int)).toNat)))) (_, _) (fun _ _ _ h x => x.mono (Flat.mono _) h) hl320)) ?_))
    rintro ⟨ad322, cap323⟩
    refine DF.und (α := Option Addr × Nat) (none, 0) (fun q => .slice q.1 r324.length q.2) (fun (q : Option Addr × Nat) K => Sl (Flat encS) 1 K q.1 q.2 r324) (fun _ _ _ h x => x.mono (Flat.mono _) h) (by kernel_rfl) rfl (fun a w K hS hA hF => TG.pa hS hA (clK C21 rfl rfl rfl rfl (fun w H hH le => w21 hH ((hF.1 rfl).mono (Flat.mono _) (le.at 0 rfl)) hx325) (by
      rintro v_ K327 ⟨ad328, cap329, rfl, hl330⟩
      exact finU (f := fun q => .slice q.1 r324.length q.2) (G := (fun (q : Option Addr × Nat) K => Sl (Flat encS) 1 K q.1 q.2 r324)) (_, _) (fun _ _ _ h x => x.mono (Flat.mono _) h) hl330))) ?_
    rintro ⟨ad332, cap333⟩
    refine DF.und (α := Option Addr × Nat) (none, 0) (fun q => .tuple [.slice q.1 r334.1.length q.2, .int .i64 r334.2].toArray) (fun (q : Option Addr × Nat) K => Sl (Flat encMark) 2 K q.1 q.2 r334.1) (fun _ _ _ h x => x.mono (Flat.mono _) h) (by kernel_rfl) rfl (fun a w K hS hA hF => TG.pa hS hA (clK C26 rfl rfl rfl rfl (fun w H hH le => w26 hH (hg.mono (le.at 3 rfl)) r308 (RLexicon.mono _ _ _ _ (le.at 0 rfl) (hF.2.2.1 rfl)) ((hF.1 rfl).mono (Flat.mono _) (le.at 0 rfl)) hx335) (by
      rintro v_ K337 ⟨ad338, cap339, rfl, hl340⟩
      exact finU (f := fun q => .tuple [.slice q.1 r334.1.length q.2, .int .i64 r334.2].toArray) (G := (fun (q : Option Addr × Nat) K => Sl (Flat encMark) 2 K q.1 q.2 r334.1)) (ad338, cap339) (fun _ _ _ h x => x.mono (Flat.mono _) h) hl340))) ?_
    rintro ⟨ad342, cap343⟩
    refine DF.und () (fun _ => .tuple [.slice ad342 r334.1.length cap343, .int .i64 r334.2].toArray) (fun _ K => Sl (Flat encMark) 2 K ad342 cap343 r334.1) (fun _ _ _ h x => x.mono (Flat.mono _) h) (by kernel_rfl) rfl (fun a w K hS hA hF => TG.pa hS hA (m1 rfl (finF (f := fun _ => .tuple [.slice ad342 r334.1.length cap343, .int .i64 r334.2].toArray) (G := fun _ K => Sl (Flat encMark) 2 K ad342 cap343 r334.1) () (hF.1 rfl)))) fun _ => (DF.und () (fun _ => .slice ad342 r334.1.length cap343) (fun _ K => Sl (Flat encMark) 2 K ad342 cap343 r334.1) (fun _ _ _ h x => x.mono (Flat.mono _) h) (by kernel_rfl) rfl (fun a w K hS hA hF => TG.pa hS hA (ex rfl rfl rfl (finF (f := fun _ => .slice ad342 r334.1.length cap343) (G := fun _ K => Sl (Flat encMark) 2 K ad342 cap343 r334.1) () (hF.1 rfl)))) fun _ => (dt rfl (ex rfl rfl rfl fin1) (DF.und () (fun _ => .slice ad342 r334.1.length cap343) (fun _ K => Sl (Flat encMark) 2 K ad342 cap343 r334.1) (fun _ _ _ h x => x.mono (Flat.mono _) h) (by kernel_rfl) rfl (fun a w K hS hA hF => TG.pa hS hA (a1 rfl (finF (f := fun _ => .slice ad342 r334.1.length cap343) (G := fun _ K => Sl (Flat encMark) 2 K ad342 cap343 r334.1) () (hF.1 rfl)))) fun _ => (DF.nil fun K347 hF => ?_))))
    obtain ⟨hu346, hu345, hu344, hu341, hu331, hu321, hu314, _⟩ := hF
    have hr348 := hu314
    obtain ⟨ad349, cap350, ad352, cap353, ad355, cap356, rfl, hl351, hl354, hl357⟩ := hu314
    have := hl351.len
    have := hl354.len
    have := hl357.len
    have := hu321.len
    have := hu331.len
    have := hu341.len
    refine a1 rfl (on (sq (sq (rg (m1 rfl (neI rfl rfl rfl (on ?_)))))))
    refine ci rfl (fun hc361 => ?_) (fun hc361 => ?_)
    ·have hr362 := if_p hc361 hr336
     refine sq (rg (a1 rfl (a1 rfl (on (rt_ ?_)))))
     cases hr362
     obtain rfl := Fin.out hz239
     cases hr227
     intro a w hS hA
     refine ret2 hA rfl rfl rfl ?_
     exact ⟨⟨_, _, rfl, (Sl.nil _ _ _ _ _ (by decide))⟩, hS.ext⟩
    ·have hr363 := if_n hc361 hr336
     refine sk ?_
     obtain ⟨hk364, hr365⟩ := chk_some hr363
     have := lenA s231.2 r334.1
     obtain ⟨ad368, cap369, hs371, hl370⟩ := slFP ((min 80 (s231.1.length : Int)).toNat) hl235 hk316
     have := hl370.len
     refine drG3 6 [2] [(3, 31, .slice ad232 s231.1.length cap233), (4, 32, .int .i64 (min 80 (s231.1.length : Int))), (5, 33, .slice ad368 ((s231.1.drop ((min 80 (s231.1.length : Int)).toNat)).length) cap369)] mixed (fun _ _ _ _ _ h => h) (by kernel_rfl) (by kernel_rfl) (by kernel_rfl) rfl (by kernel_rfl) (.cons rfl rfl rfl (fun _ => rfl) (by kernel_rfl) (by kernel_rfl) (fun _ _ => rfl) (mvY rfl) (.cons rfl rfl rfl (fun _ => rfl) (by kernel_rfl) (by kernel_rfl) (fun _ _ => rfl) (mvY rfl) (.cons rfl rfl rfl (fun _ => rfl) (by kernel_rfl) (by kernel_rfl) (fun _ _ => rfl) (slFY ((min 80 (s231.1.length : Int)).toNat) U24 Z9 hl235 rfl rfl rfl (by omega) hk316 hs371) (.nil)))) (dc rfl (by kernel_rfl) tv rfl rfl (m1 rfl fin1) (dc rfl (by kernel_rfl) tv rfl rfl (m1 rfl fin1) (DC.turn (α := Option Addr × Nat) (none, 0) (fun q => .slice q.1 ((s231.2 ++ r334.1).length) q.2) (fun _ _ => True) (fun q => [(2, Own.list q.1 q.2 79 2 encMark (s231.2 ++ r334.1))]) rfl (fun _ _ _ _ h => h) (by kernel_rfl) rfl rfl (fun a w K hS hA hF => TG.pa hS hA (apS 2 (enc := encMark) (l := s231.2) (m := r334.1) T4.E49 rfl rfl rfl rfl rfl rfl hu346 1 rfl (fun _ => rfl) (fun _ => rfl) rfl hk364 fun ad366 cap367 => finT (f := fun q => .slice q.1 ((s231.2 ++ r334.1).length) q.2) (G := fun _ _ => True) (σ1 := fun q => [(2, Own.list q.1 q.2 79 2 encMark (s231.2 ++ r334.1))]) (_, _) tv)) ?_)))
     rintro ⟨ad366, cap367⟩
     refine DC.pre (.head _) rfl (DC.pre (.tail _ (.head _)) rfl (DC.pre (.tail _ (.tail _ (.head _))) rfl (DC.nil fun K372 hF => ?_)))
     obtain ⟨_, _⟩ := hF
     refine a1 rfl (a1 rfl (on ?_))
     cases hr365
     intro a w hS hA
     exact ⟨_, hz239, ad368, cap369, K234, ad366, cap367, hS.selH [2, 3, 4] rfl, hA.cut ⟨rfl, rfl, rfl, tv⟩, hl370⟩
   ·have hr373 := if_n hc244 hr238
    refine xt rfl ?_
    cases hr373
    obtain rfl := Fin.out hz239
    intro a w hS hA
    exact ⟨_, rfl, ad236, cap237, hS.selH [1, 2] rfl, hA.cut ⟨rfl, tv⟩⟩
 ·rintro a w ⟨t228, rfl, ad229, cap230, hS, hA⟩
  refine TG.ap ?_ hS hA
  refine sq (rg (m1 rfl (a1 rfl (a1 rfl (on (rt_ ?_))))))
  cases hr227
  intro a w hS hA
  refine ret2 hA rfl rfl rfl ?_
  exact ⟨⟨_, _, rfl, (hS.listOut 2 rfl (fun _ => rfl))⟩, hS.ext⟩

theorem w11 {M : Prop} {W : World} {H : Hp} (hH : H.le (hp W)) (hg : Gv M H) {cs_l_0 : List Value} (l_0 : Lexicon) (h_l_0 : (RLexicon) H cs_l_0 l_0) {ad_swaps : Option Addr} {cap_swaps : Nat} {swaps : List Swap} (h_swaps : Sl (Flat encSwap) 3 H ad_swaps cap_swaps swaps) {cs_r_2 : List Value} (r_2 : Report) (h_r_2 : (RReport) H cs_r_2 r_2) {ad_requests : Option Addr} {cap_requests : Nat} {requests : List Request} (h_requests : Sl (RRequest) 5 H ad_requests cap_requests requests) {r : Bool} (hr : m11 l_0 swaps r_2 requests = some r) : Calls Tryz.prog 11 [.agg cs_l_0.toArray, .slice ad_swaps swaps.length cap_swaps, .agg cs_r_2.toArray, .slice ad_requests requests.length cap_requests].toArray W (RetS M W (.bool r)) := by
 have hh_l_0 := h_l_0
 obtain ⟨ad1, cap2, ad4, cap5, ad7, cap8, rfl, hl3, hl6, hl9⟩ := h_l_0
 have := hl3.len
 have := hl6.len
 have := hl9.len
 have := h_swaps.len
 have hh_r_2 := h_r_2
 obtain ⟨ad10, cap11, rfl, hl12⟩ := h_r_2
 have := hl12.len
 have := h_requests.len
 unfold m11 at hr
 refine enterG (M := M) Tryz.func11 rfl Tryz.ntmps11 rfl hH ?_
 refine sq (rg (bI (cs := [.slice ad1 l_0.numbers.length cap2, .slice ad4 l_0.names.length cap5, .slice ad7 l_0.nots.length cap8]) rfl rfl rfl fun q13 K14 hK15 => (bI (cs := [.slice ad10 r_2.words.length cap11, .int .i64 r_2.out, .int .i64 r_2.within]) rfl rfl rfl fun q16 K17 hK18 => (a1 rfl (on (sq (sq (rg (ldA G26 Z26 rfl rfl (sS 1 rfl hK15) rfl (m1 rfl (ldA G68 Z68 rfl rfl (sS 0 rfl hK18) rfl ?_)))))))))))
 refine m1 rfl ?_
 obtain ⟨r19, hx20, hr21⟩ := bd_some hr
 refine clS C30 rfl rfl rfl rfl (fun w H hH le => w30 hH l_0 (RLexicon.mono _ _ _ _ (le.at 2 rfl) hh_l_0) (h_swaps.mono (Flat.mono _) (le.at 2 rfl)) r_2 (RReport.mono _ _ _ _ (le.at 2 rfl) hh_r_2) (h_requests.mono (RRequest.mono) (le.at 2 rfl)) hx20) (nt rfl rfl (on ?_))
 refine cb rfl (fun hc28 => ?_) (fun hc28 => ?_)
 ·replace hc28 := nbt hc28
  have hr29 := if_f hc28 hr21
  refine sq (rg ?_)
  obtain ⟨r30, hx31, hr32⟩ := bd_some hr29
  refine clS C17 rfl rfl rfl rfl (fun w H hH le => w17 hH (hg.mono (le.at 2 rfl))  hx31) (a1 rfl (on (rt_ ?_)))
  cases hr32
  intro a w hS hA
  refine ret1 hA rfl rfl ?_
  exact ⟨rfl, hS.ext⟩
 ·replace hc28 := nbf hc28
  have hr33 := if_p hc28 hr21
  refine sk (sq ?_)
  obtain ⟨r34, hx35, hr36⟩ := bd_some hr33
  obtain ⟨r42, hx43, hr44⟩ := bd_some hr36
  obtain ⟨r52, hx53, hr54⟩ := bd_some hr44
  obtain ⟨r60, hx61, hr62⟩ := bd_some hr54
  obtain ⟨r70, hx71, hr72⟩ := bd_some hr62
  refine drG 13 mixed (by kernel_rfl) rfl (dt rfl (ldA G26 Z26 rfl rfl (sS 2 rfl hK15) rfl fin1) ?_)
  refine DF.und (α := List Value) [] (fun q => .agg q.toArray) (fun (q : List Value) K => (RLexicon) K q r34) (fun _ _ _ h x => RLexicon.mono _ _ _ _ h x) (by kernel_rfl) rfl (fun a w K hS hA hF => TG.pa hS hA (clK C19 rfl rfl rfl rfl (fun w H hH le => w19 hH l_0 (RLexicon.mono _ _ _ _ (le.at 3 rfl) hh_l_0) hx35) (by
    rintro v_ K37 ⟨cs38, rfl, hr39⟩
    exact finU (f := fun q => .agg q.toArray) (G := (fun (q : List Value) K => (RLexicon) K q r34)) _ (fun _ _ _ h x => RLexicon.mono _ _ _ _ h x) hr39))) fun cs41 => ?_
  refine dt rfl (m1 rfl fin1) ?_
  refine DF.und (α := Option Addr × Nat) (none, 0) (fun q => .slice q.1 r42.length q.2) (fun (q : Option Addr × Nat) K => Sl (Flat encSwap) 3 K q.1 q.2 r42) (fun _ _ _ h x => x.mono (Flat.mono _) h) (by kernel_rfl) rfl (fun a w K hS hA hF => TG.pa hS hA (clK C20 rfl rfl rfl rfl (fun w H hH le => w20 hH (h_swaps.mono (Flat.mono _) (le.at 3 rfl)) hx43) (by
    rintro v_ K45 ⟨ad46, cap47, rfl, hl48⟩
    exact finU (f := fun q => .slice q.1 r42.length q.2) (G := (fun (q : Option Addr × Nat) K => Sl (Flat encSwap) 3 K q.1 q.2 r42)) (_, _) (fun _ _ _ h x => x.mono (Flat.mono _) h) hl48))) ?_
  rintro ⟨ad50, cap51⟩
  refine dt rfl (ldA G68 Z68 rfl rfl (sS 1 rfl hK18) rfl fin1) ?_
  refine DF.und (α := List Value) [] (fun q => .agg q.toArray) (fun (q : List Value) K => (RReport) K q r52) (fun _ _ _ h x => RReport.mono _ _ _ _ h x) (by kernel_rfl) rfl (fun a w K hS hA hF => TG.pa hS hA (clK C31 rfl rfl rfl rfl (fun w H hH le => w31 hH r_2 (RReport.mono _ _ _ _ (le.at 3 rfl) hh_r_2) hx53) (by
    rintro v_ K55 ⟨cs56, rfl, hr57⟩
    exact finU (f := fun q => .agg q.toArray) (G := (fun (q : List Value) K => (RReport) K q r52)) _ (fun _ _ _ h x => RReport.mono _ _ _ _ h x) hr57))) fun cs59 => ?_
  refine dt rfl (m1 rfl fin1) ?_
  refine DF.und (α := Option Addr × Nat) (none, 0) (fun q => .slice q.1 r60.length q.2) (fun (q : Option Addr × Nat) K => Sl (RRequest) 5 K q.1 q.2 r60) (fun _ _ _ h x => x.mono (RRequest.mono) h) (by kernel_rfl) rfl (fun a w K hS hA hF => TG.pa hS hA (clK C32 rfl rfl rfl rfl (fun w H hH le => w32 hH (h_requests.mono (RRequest.mono) (le.at 3 rfl)) hx61) (by
    rintro v_ K63 ⟨ad64, cap65, rfl, hl66⟩
    exact finU (f := fun q => .slice q.1 r60.length q.2) (G := (fun (q : Option Addr × Nat) K => Sl (RRequest) 5 K q.1 q.2 r60)) (_, _) (fun _ _ _ h x => x.mono (RRequest.mono) h) hl66))) ?_
  rintro ⟨ad68, cap69⟩
  refine DF.und (α := Option Addr × Nat) (none, 0) (fun q => .tuple [.slice q.1 r70.1.length q.2, .int .i64 r70.2].toArray) (fun (q : Option Addr × Nat) K => Sl (RSegment) 3 K q.1 q.2 r70.1) (fun _ _ _ h x => x.mono (RSegment.mono) h) (by kernel_rfl) rfl (fun a w K hS hA hF => TG.pa hS hA (clK C42 rfl rfl rfl rfl (fun w H hH le => w42 hH (hg.mono (le.at 3 rfl)) r34 (RLexicon.mono _ _ _ _ (le.at 0 rfl) (hF.2.2.2.1 rfl)) ((hF.2.2.1 rfl).mono (Flat.mono _) (le.at 0 rfl)) r52 (RReport.mono _ _ _ _ (le.at 0 rfl) (hF.2.1 rfl)) ((hF.1 rfl).mono (RRequest.mono) (le.at 0 rfl)) hx71) (by
    rintro v_ K73 ⟨ad74, cap75, rfl, hl76⟩
    exact finU (f := fun q => .tuple [.slice q.1 r70.1.length q.2, .int .i64 r70.2].toArray) (G := (fun (q : Option Addr × Nat) K => Sl (RSegment) 3 K q.1 q.2 r70.1)) (ad74, cap75) (fun _ _ _ h x => x.mono (RSegment.mono) h) hl76))) ?_
  rintro ⟨ad78, cap79⟩
  refine DF.und () (fun _ => .tuple [.slice ad78 r70.1.length cap79, .int .i64 r70.2].toArray) (fun _ K => Sl (RSegment) 3 K ad78 cap79 r70.1) (fun _ _ _ h x => x.mono (RSegment.mono) h) (by kernel_rfl) rfl (fun a w K hS hA hF => TG.pa hS hA (m1 rfl (finF (f := fun _ => .tuple [.slice ad78 r70.1.length cap79, .int .i64 r70.2].toArray) (G := fun _ K => Sl (RSegment) 3 K ad78 cap79 r70.1) () (hF.1 rfl)))) fun _ => (DF.und () (fun _ => .slice ad78 r70.1.length cap79) (fun _ K => Sl (RSegment) 3 K ad78 cap79 r70.1) (fun _ _ _ h x => x.mono (RSegment.mono) h) (by kernel_rfl) rfl (fun a w K hS hA hF => TG.pa hS hA (ex rfl rfl rfl (finF (f := fun _ => .slice ad78 r70.1.length cap79) (G := fun _ K => Sl (RSegment) 3 K ad78 cap79 r70.1) () (hF.1 rfl)))) fun _ => (dt rfl (ex rfl rfl rfl fin1) (DF.und () (fun _ => .slice ad78 r70.1.length cap79) (fun _ K => Sl (RSegment) 3 K ad78 cap79 r70.1) (fun _ _ _ h x => x.mono (RSegment.mono) h) (by kernel_rfl) rfl (fun a w K hS hA hF => TG.pa hS hA (a1 rfl (finF (f := fun _ => .slice ad78 r70.1.length cap79) (G := fun _ K => Sl (RSegment) 3 K ad78 cap79 r70.1) () (hF.1 rfl)))) fun _ => (DF.nil fun K83 hF => ?_))))
  obtain ⟨hu82, hu81, hu80, hu77, hu67, hu58, hu49, hu40, _⟩ := hF
  have hr84 := hu40
  obtain ⟨ad85, cap86, ad88, cap89, ad91, cap92, rfl, hl87, hl90, hl93⟩ := hu40
  have := hl87.len
  have := hl90.len
  have := hl93.len
  have := hu49.len
  have hr94 := hu58
  obtain ⟨ad95, cap96, rfl, hl97⟩ := hu58
  have := hl97.len
  have := hu67.len
  have := hu77.len
  refine a1 rfl (on (sq (sq ?_)))
  obtain ⟨t105, hx106, hr107⟩ := bd_some hr72
  refine jn (fun a w => St M W H [K83, K17, K14, H] [] w ∧ Has [] 166 a [(1, .slice ad_swaps swaps.length cap_swaps), (4, .pointer (some q13)), (9, .slice ad78 r70.1.length cap79), (51, .bool t105)]) ?_ ?_
  ·refine rg (m1 rfl (neI rfl rfl rfl (m1 rfl ?_)))
   by_cases hb108 : r70.2 ≠ 0
   ·have hr109 := if_p hb108 hx106
    refine gf' hb108 rfl (gf' hb108 rfl (gf' hb108 rfl (gf' hb108 rfl (gf' hb108 rfl (gf' hb108 rfl (gf' hb108 rfl (pt hb108 rfl rfl (on ?_))))))))
    cases hr109
    exact cu ⟨rfl, rfl, rfl, rfl, tv⟩
   ·have hr110 := if_n hb108 hx106
    refine gt' hb108 rfl (m1 rfl (gt' hb108 rfl (lnL U91 rfl rfl (gt' hb108 rfl (m1 rfl (gt' hb108 rfl (lnL U69 rfl rfl (gt' hb108 rfl ?_))))))))
    obtain ⟨hk111, hr112⟩ := chk_some hr110
    refine mlI rfl rfl rfl hk111 (gt' hb108 rfl ?_)
    obtain ⟨hk113, hr114⟩ := chk_some hr112
    refine adI rfl rfl rfl hk113 (gt' hb108 rfl (gtI rfl rfl rfl (pf hb108 rfl rfl (on ?_))))
    cases hr114
    exact cu ⟨rfl, rfl, rfl, rfl, tv⟩
  ·rintro a w ⟨hS, hA⟩
   refine TG.ap ?_ hS hA
   refine cb rfl (fun hc118 => ?_) (fun hc118 => ?_)
   ·have hr119 := if_p hc118 hr107
    refine sq (rg (a1 rfl (on (rt_ ?_))))
    cases hr119
    intro a w hS hA
    refine ret1 hA rfl rfl ?_
    exact ⟨rfl, hS.ext⟩
   ·have hr120 := if_f hc118 hr107
    refine sk (sq (rg (a1 rfl (a1 rfl (on (sq (sq (rg (a1 rfl (on (TG.nilRow 3 9 1 ?_)))))))))))
    refine TG.nilRow 4 9 1 (TG.as 4 (z := Own.list none 0 9 1 encS ([] : List Bytes)) rfl rfl (TG.as 3 (z := Own.list none 0 9 1 encS ([] : List Bytes)) rfl rfl ?_))
    obtain ⟨e217, hl218, hr219⟩ := bd_some hr120
    refine jn (fun a w => ∃ (ad220 : Option Addr) (cap221 : Nat) (ad222 : Option Addr) (cap223 : Nat), St M W H [K83, K17, K14, H] [(4, Own.list ad220 cap221 9 1 encS e217.1), (3, Own.list ad222 cap223 9 1 encS e217.2)] w ∧ Has [] 166 a [(1, .slice ad_swaps swaps.length cap_swaps), (4, .pointer (some q13)), (11, .slice ad222 e217.2.length cap223), (12, .slice ad220 e217.1.length cap221)]) ?_ ?_
    ·refine bk ?_
     refine lp hl218 (fun s224 a w => ∃ (ad225 : Option Addr) (cap226 : Nat) (ad227 : Option Addr) (cap228 : Nat), St M W H [K83, K17, K14, H] [(4, Own.list ad225 cap226 9 1 encS s224.2.1), (3, Own.list ad227 cap228 9 1 encS s224.2.2)] w ∧ Has [] 166 a [(1, .slice ad_swaps swaps.length cap_swaps), (4, .pointer (some q13)), (9, .slice ad78 r70.1.length cap79), (11, .slice ad227 s224.2.2.length cap228), (12, .slice ad225 s224.2.1.length cap226), (13, .int .i64 (s224.1 : Int))]) ?_ ?_
     ·intro a w hS hA
      exact ⟨none, 0, none, 0, hS, hA.cut ⟨rfl, rfl, rfl, rfl, rfl, rfl, tv⟩⟩
     ·rintro j s224 y231 hr229 hz230 a w ⟨ad225, cap226, ad227, cap228, hS, hA⟩
      refine TG.ap ?_ hS hA
      unfold m11_1 at hr229
      refine sq (sq (rg (m1 rfl (m1 rfl (lnL U91 rfl rfl (ltI rfl rfl rfl (on ?_)))))))
      refine ci rfl (fun hc235 => ?_) (fun hc235 => ?_)
      ·have hr236 := if_p hc235 hr229
       refine sk (sq (bk ?_))
       obtain ⟨x261, hx262, hr263⟩ := bd_some hr236
       obtain ⟨p264, rfl⟩ := hu82.adr hx262
       obtain ⟨cs265, hcs266, hq267, hr268⟩ := hu82.at hx262
       have hr269 := hr268
       obtain ⟨ad270, cap271, ad273, cap274, rfl, hl272, hl275⟩ := hr268
       have := hl272.len
       have := hl275.len
       obtain ⟨hk276, hr277⟩ := chk_some hr263
       have := lenA s224.2.2 x261.old_
       refine drG2 13 6 mixed (by kernel_rfl) rfl rfl (DG.det (fun τ => τ = [(4, Own.list ad225 cap226 9 1 encS s224.2.1), (3, Own.list ad227 cap228 9 1 encS s224.2.2)]) rfl rfl (.inr (by kernel_rfl)) (fun _ h => by cases h) rfl rfl (fun τ hτ a w K hS hA hF => by subst hτ <;> exact TG.pa hS hA (m1 rfl fin1)) (DG.det (fun τ => τ = [(4, Own.list ad225 cap226 9 1 encS s224.2.1), (3, Own.list ad227 cap228 9 1 encS s224.2.2)]) rfl rfl (.inr (by kernel_rfl)) (fun _ h => by cases h) rfl rfl (fun τ hτ a w K hS hA hF => by subst hτ <;> exact TG.pa hS hA (m1 rfl fin1)) (DG.det (fun τ => τ = [(4, Own.list ad225 cap226 9 1 encS s224.2.1), (3, Own.list ad227 cap228 9 1 encS s224.2.2)]) rfl rfl (.inr (by kernel_rfl)) (fun _ h => by cases h) rfl rfl (fun τ hτ a w K hS hA hF => by subst hτ <;> exact TG.pa hS hA (m1 rfl fin1)) (DG.det (fun τ => τ = [(4, Own.list ad225 cap226 9 1 encS s224.2.1), (3, Own.list ad227 cap228 9 1 encS s224.2.2)]) rfl rfl (.inr (by kernel_rfl)) (fun _ h => by cases h) rfl rfl (fun τ hτ a w K hS hA hF => by subst hτ <;> exact TG.pa hS hA (iaP U91 Z98 rfl rfl rfl rfl (lt_of hx262) fin1)) (DG.det (fun τ => τ = [(4, Own.list ad225 cap226 9 1 encS s224.2.1), (3, Own.list ad227 cap228 9 1 encS s224.2.2)]) rfl rfl (.inr (by kernel_rfl)) (fun _ h => by cases h) rfl rfl (fun τ hτ a w K hS hA hF => by subst hτ <;> exact TG.pa hS hA (fb 0 U98 rfl rfl rfl rfl Z24 fin1)) (DG.det (fun τ => τ = [(4, Own.list ad225 cap226 9 1 encS s224.2.1), (3, Own.list ad227 cap228 9 1 encS s224.2.2)]) rfl rfl (.inr (by kernel_rfl)) (fun _ h => by cases h) rfl rfl (fun τ hτ a w K hS hA hF => by subst hτ <;> exact TG.pa hS hA (ld G24 rfl rfl ((sS 1 rfl hq267).take 1) rfl fin1)) (DG.turn (α := Option Addr × Nat) (none, 0) (fun q => .slice q.1 ((s224.2.2 ++ x261.old_).length) q.2) (fun _ _ => True) (fun q => [(4, Own.list ad225 cap226 9 1 encS s224.2.1), (3, Own.list q.1 q.2 9 1 encS (s224.2.2 ++ x261.old_))]) rfl (fun _ _ _ _ h => h) (by kernel_rfl) rfl rfl (fun a w K hS hA hF => TG.pa hS hA (apS 3 (enc := encS) (l := s224.2.2) (m := x261.old_) T4.E24 rfl rfl rfl rfl rfl rfl hl272 1 rfl (fun _ => rfl) (fun _ => rfl) rfl hk276 fun ad278 cap279 => finT (f := fun q => .slice q.1 ((s224.2.2 ++ x261.old_).length) q.2) (G := fun _ _ => True) (σ1 := fun q => [(4, Own.list ad225 cap226 9 1 encS s224.2.1), (3, Own.list q.1 q.2 9 1 encS (s224.2.2 ++ x261.old_))]) (_, _) tv)) ?_)))))))
       rintro ⟨ad278, cap279⟩
       refine DG.det (fun τ => τ = [(4, Own.list ad225 cap226 9 1 encS s224.2.1), (3, Own.list ad278 cap279 9 1 encS (s224.2.2 ++ x261.old_))] ∨ τ = [(4, Own.list ad225 cap226 9 1 encS s224.2.1), (3, Own.list ad227 cap228 9 1 encS s224.2.2)]) rfl (.inl rfl) (.inl rfl) (fun τ h => .inl (.inr (by cases h; rfl))) rfl rfl (fun τ hτ a w K hS hA hF => by rcases hτ with rfl | rfl <;> exact TG.pa hS hA (m1 rfl fin1)) (DG.det (fun τ => τ = [(4, Own.list ad225 cap226 9 1 encS s224.2.1), (3, Own.list ad278 cap279 9 1 encS (s224.2.2 ++ x261.old_))] ∨ τ = [(4, Own.list ad225 cap226 9 1 encS s224.2.1), (3, Own.list ad227 cap228 9 1 encS s224.2.2)]) rfl (.inl rfl) (.inl rfl) (fun τ h => .inl (.inr (by cases h; rfl))) rfl rfl (fun τ hτ a w K hS hA hF => by rcases hτ with rfl | rfl <;> exact TG.pa hS hA (m1 rfl fin1)) (DG.det (fun τ => τ = [(4, Own.list ad225 cap226 9 1 encS s224.2.1), (3, Own.list ad278 cap279 9 1 encS (s224.2.2 ++ x261.old_))] ∨ τ = [(4, Own.list ad225 cap226 9 1 encS s224.2.1), (3, Own.list ad227 cap228 9 1 encS s224.2.2)]) rfl (.inl rfl) (.inl rfl) (fun τ h => .inl (.inr (by cases h; rfl))) rfl rfl (fun τ hτ a w K hS hA hF => by rcases hτ with rfl | rfl <;> exact TG.pa hS hA (m1 rfl fin1)) (DG.det (fun τ => τ = [(4, Own.list ad225 cap226 9 1 encS s224.2.1), (3, Own.list ad278 cap279 9 1 encS (s224.2.2 ++ x261.old_))] ∨ τ = [(4, Own.list ad225 cap226 9 1 encS s224.2.1), (3, Own.list ad227 cap228 9 1 encS s224.2.2)]) rfl (.inl rfl) (.inl rfl) (fun τ h => .inl (.inr (by cases h; rfl))) rfl rfl (fun τ hτ a w K hS hA hF => by rcases hτ with rfl | rfl <;> exact TG.pa hS hA (iaP U91 Z98 rfl rfl rfl rfl (lt_of hx262) fin1)) (DG.det (fun τ => τ = [(4, Own.list ad225 cap226 9 1 encS s224.2.1), (3, Own.list ad278 cap279 9 1 encS (s224.2.2 ++ x261.old_))] ∨ τ = [(4, Own.list ad225 cap226 9 1 encS s224.2.1), (3, Own.list ad227 cap228 9 1 encS s224.2.2)]) rfl (.inl rfl) (.inl rfl) (fun τ h => .inl (.inr (by cases h; rfl))) rfl rfl (fun τ hτ a w K hS hA hF => by rcases hτ with rfl | rfl <;> exact TG.pa hS hA (fb 1 U98 rfl rfl rfl rfl Z24 fin1)) (DG.det (fun τ => τ = [(4, Own.list ad225 cap226 9 1 encS s224.2.1), (3, Own.list ad278 cap279 9 1 encS (s224.2.2 ++ x261.old_))] ∨ τ = [(4, Own.list ad225 cap226 9 1 encS s224.2.1), (3, Own.list ad227 cap228 9 1 encS s224.2.2)]) rfl (.inl rfl) (.inl rfl) (fun τ h => .inl (.inr (by cases h; rfl))) rfl rfl (fun τ hτ a w K hS hA hF => by rcases hτ with rfl | rfl <;> exact TG.pa hS hA (ld G24 rfl rfl (((sS 1 rfl hq267).drop 1).take 1) rfl fin1)) (DG.nil fun K280 hF => ?_))))))
       obtain ⟨_, _⟩ := hF
       obtain ⟨hk281, hr282⟩ := chk_some hr277
       have := lenA s224.2.1 x261.new_
       refine apS 4 (enc := encS) (l := s224.2.1) (m := x261.new_) T4.E24 rfl rfl rfl rfl rfl rfl hl275 1 rfl (fun _ => rfl) (fun _ => rfl) rfl hk281 fun ad283 cap284 => (a1 rfl (a1 rfl (on (rg (m1 rfl (adI rfl rfl rfl (by omega) (a1 rfl (on ?_))))))))
       cases hr282
       intro a w hS hA
       exact ⟨_, hz230, ad283, cap284, ad278, cap279, hS.selH [1, 2, 3, 4] rfl, hA.cut ⟨rfl, rfl, rfl, rfl, rfl, rfl, tv⟩⟩
      ·have hr285 := if_n hc235 hr229
       refine xt rfl ?_
       cases hr285
       obtain rfl := Fin.out hz230
       intro a w hS hA
       exact ⟨ad225, cap226, ad227, cap228, hS, hA.cut ⟨rfl, rfl, rfl, rfl, tv⟩⟩
    ·rintro a w ⟨ad220, cap221, ad222, cap223, hS, hA⟩
     refine TG.ap ?_ hS hA
     refine sq (rg (ldA G26 Z26 rfl rfl (sS 2 rfl hK15) rfl (m1 rfl (TG.still 3 rfl (fun _ => rfl) fun K286 hl287 => ?_))))
     have := hl287.len
     obtain ⟨r288, hx289, hr290⟩ := bd_some hr219
     refine clK C45 rfl rfl rfl rfl (fun w H hH le => w45 hH (hg.mono (le.at 4 rfl)) l_0 (RLexicon.mono _ _ _ _ (le.at 4 rfl) hh_l_0) (hl287.mono (Flat.mono _) (le.at 0 rfl)) hx289) ?_
     rintro v_ K291 ⟨ad292, cap293, rfl, hl294⟩
     have := hl294.len
     refine m1 rfl (ex rfl rfl rfl (ex rfl rfl rfl (a1 rfl (a1 rfl (on (sq (rg (ldA G26 Z26 rfl rfl (sS 4 rfl hK15) rfl (m1 rfl (TG.still 4 rfl (fun _ => rfl) fun K295 hl296 => ?_))))))))))
     have := hl296.len
     obtain ⟨r297, hx298, hr299⟩ := bd_some hr290
     refine clK C45 rfl rfl rfl rfl (fun w H hH le => w45 hH (hg.mono (le.at 6 rfl)) l_0 (RLexicon.mono _ _ _ _ (le.at 6 rfl) hh_l_0) (hl296.mono (Flat.mono _) (le.at 0 rfl)) hx298) ?_
     rintro v_ K300 ⟨ad301, cap302, rfl, hl303⟩
     have := hl303.len
     refine m1 rfl (ex rfl rfl rfl (ex rfl rfl rfl (a1 rfl (a1 rfl (on (sq (sq ?_)))))))
     obtain ⟨t310, hx311, hr312⟩ := bd_some hr299
     refine jn (fun a w => St M W H [K300, K295, K291, K286, K83, K17, K14, H] [] w ∧ Has [] 166 a [(1, .slice ad_swaps swaps.length cap_swaps), (14, .slice ad292 r288.1.length cap293), (16, .slice ad301 r297.1.length cap302), (96, .bool t310)]) ?_ ?_
     ·refine rg (m1 rfl (nt rfl rfl (m1 rfl ?_)))
      rcases Bool.eq_false_or_eq_true (r288.2) with hb313 | hb313
      ·have hr314 := if_p hb313 hx311
       refine gN rfl rfl (congrArg not (hb313)) (m1 rfl (gN rfl rfl (congrArg not (hb313)) (nt rfl rfl (pF rfl rfl (congrArg not (hb313)) rfl (m1 rfl ?_)))))
       rcases Bool.eq_false_or_eq_true (r297.2) with hb315 | hb315
       ·have hr316 := if_p hb315 hr314
        refine gN rfl rfl (congrArg not (hb315)) (m1 rfl (gN rfl rfl (congrArg not (hb315)) (lnL U49 rfl rfl (gN rfl rfl (congrArg not (hb315)) (m1 rfl (gN rfl rfl (congrArg not (hb315)) (lnL U49 rfl rfl (gN rfl rfl (congrArg not (hb315)) (neI rfl rfl rfl (pF rfl rfl (congrArg not (hb315)) rfl (on ?_)))))))))))
        cases hr316
        exact cu ⟨rfl, rfl, rfl, rfl, tv⟩
       ·have hr317 := if_f hb315 hr314
        refine gF rfl rfl (congrArg not (hb315)) rfl (gF rfl rfl (congrArg not (hb315)) rfl (gF rfl rfl (congrArg not (hb315)) rfl (gF rfl rfl (congrArg not (hb315)) rfl (gF rfl rfl (congrArg not (hb315)) rfl (pT rfl rfl (congrArg not (hb315)) rfl (on ?_))))))
        cases hr317
        exact cu ⟨rfl, rfl, rfl, rfl, tv⟩
      ·have hr318 := if_f hb313 hx311
       refine gF rfl rfl (congrArg not (hb313)) rfl (gF rfl rfl (congrArg not (hb313)) rfl (pT rfl rfl (congrArg not (hb313)) rfl (m1 rfl (gF rfl rfl rfl rfl (gF rfl rfl rfl rfl (gF rfl rfl rfl rfl (gF rfl rfl rfl rfl (gF rfl rfl rfl rfl (pT rfl rfl rfl rfl (on ?_))))))))))
       cases hr318
       exact cu ⟨rfl, rfl, rfl, rfl, tv⟩
     ·rintro a w ⟨hS, hA⟩
      refine TG.ap ?_ hS hA
      refine cb rfl (fun hc322 => ?_) (fun hc322 => ?_)
      ·have hr323 := if_p hc322 hr312
       refine sq (rg (a1 rfl (on (rt_ ?_))))
       cases hr323
       intro a w hS hA
       refine ret1 hA rfl rfl ?_
       exact ⟨rfl, hS.ext⟩
      ·have hr324 := if_f hc322 hr312
       refine sk (sq (sq (rg (a1 rfl (on ?_)))))
       obtain ⟨e383, hl384, hr385⟩ := bd_some hr324
       refine jn (fun a w => ∃ t386, e383 = .inl t386 ∧ St M W H [K300, K295, K291, K286, K83, K17, K14, H] [] w ∧ Has [] 166 a []) ?_ ?_
       ·refine bk ?_
        refine lp hl384 (fun s387 a w => St M W H [K300, K295, K291, K286, K83, K17, K14, H] [] w ∧ Has [] 166 a [(1, .slice ad_swaps swaps.length cap_swaps), (14, .slice ad292 r288.1.length cap293), (16, .slice ad301 r297.1.length cap302), (18, .int .i64 (s387 : Int))]) ?_ ?_
        ·exact cu ⟨rfl, rfl, rfl, rfl, tv⟩
        ·rintro j s387 y390 hr388 hz389 a w ⟨hS, hA⟩
         refine TG.ap ?_ hS hA
         unfold m11_2 at hr388
         refine sq (sq (rg (m1 rfl (m1 rfl (lnL U49 rfl rfl (ltI rfl rfl rfl (on ?_)))))))
         refine ci rfl (fun hc394 => ?_) (fun hc394 => ?_)
         ·have hr395 := if_p hc394 hr388
          refine sk (sq (bk (sq ?_)))
          obtain ⟨x450, hx451, hr452⟩ := bd_some hr395
          obtain ⟨p453, rfl⟩ := hl294.adr hx451
          obtain ⟨cs454, hcs455, hq456, hr457⟩ := hl294.at hx451
          obtain rfl := hr457
          obtain ⟨x458, hx459, hr460⟩ := bd_some hr452
          obtain ⟨p461, rfl⟩ := hl303.adr hx459
          obtain ⟨cs462, hcs463, hq464, hr465⟩ := hl303.at hx459
          obtain rfl := hr465
          refine drG 8 mixed (by kernel_rfl) rfl (dt rfl (m1 rfl fin1) (dt rfl (m1 rfl fin1) (dt rfl (iaP U49 Z79 rfl rfl rfl rfl (lt_of hx451) fin1) (dt rfl (ldA G79 Z79 rfl rfl (sS 3 rfl hq456) rfl fin1) (dt rfl (m1 rfl fin1) (dt rfl (m1 rfl fin1) (dt rfl (iaP U49 Z79 rfl rfl rfl rfl (lt_of hx459) fin1) (dt rfl (ldA G79 Z79 rfl rfl (sS 1 rfl hq464) rfl fin1) (DF.nil fun K466 hF => (eqA x450 x458 T4.Q79 rfl rfl rfl (a1 rfl ?_)))))))))))
          refine on (sq (sq (rg (a1 rfl (on ?_)))))
          obtain ⟨e500, hl501, hr502⟩ := bd_some hr460
          refine jn (fun a w => St M W H [K466, K300, K295, K291, K286, K83, K17, K14, H] [] w ∧ Has [] 166 a [(1, .slice ad_swaps swaps.length cap_swaps), (14, .slice (some p453) r288.1.length cap293), (16, .slice (some p461) r297.1.length cap302), (18, .int .i64 (s387 : Int)), (19, .bool e500)]) ?_ ?_
          ·refine bk ?_
           refine lp hl501 (fun s503 a w => St M W H [K466, K300, K295, K291, K286, K83, K17, K14, H] [] w ∧ Has [] 166 a [(1, .slice ad_swaps swaps.length cap_swaps), (14, .slice (some p453) r288.1.length cap293), (16, .slice (some p461) r297.1.length cap302), (18, .int .i64 (s387 : Int)), (19, .bool s503.2), (20, .int .i64 (s503.1 : Int))]) ?_ ?_
           ·exact cu ⟨rfl, rfl, rfl, rfl, rfl, rfl, tv⟩
           ·rintro j s503 y506 hr504 hz505 a w ⟨hS, hA⟩
            refine TG.ap ?_ hS hA
            unfold m11_3 at hr504
            refine sq (sq (rg (m1 rfl (m1 rfl (lnL U27 rfl rfl (ltI rfl rfl rfl (on ?_)))))))
            refine ci rfl (fun hc510 => ?_) (fun hc510 => ?_)
            ·have hr511 := if_p hc510 hr504
             refine sk (sq (bk (sq (rg (m1 rfl (m1 rfl ?_))))))
             obtain ⟨x541, hx542, hr543⟩ := bd_some hr511
             obtain ⟨p544, rfl⟩ := h_swaps.adr hx542
             obtain ⟨cs545, hcs546, hq547, hr548⟩ := h_swaps.at hx542
             obtain rfl := hr548
             refine iaP U27 Z48 rfl rfl rfl rfl (lt_of hx542) (ldA G48 Z48 rfl rfl (sS 8 rfl hq547) rfl (va (cs := [.int .u8 x541.kind, .int .i64 x541.old_, .int .i64 x541.new_]) Tryz.zeroValue48 Z48 rfl rfl rfl rfl rfl rfl rfl rfl fun q549 K550 hK551 => (on ?_)))
             obtain ⟨t569, hx570, hr571⟩ := bd_some hr543
             refine jn (fun a w => St M W H [K550, K466, K300, K295, K291, K286, K83, K17, K14, H] [] w ∧ Has [] 166 a [(1, .slice (some p544) swaps.length cap_swaps), (14, .slice (some p453) r288.1.length cap293), (16, .slice (some p461) r297.1.length cap302), (18, .int .i64 (s387 : Int)), (19, .bool t569), (20, .int .i64 (s503.1 : Int))]) ?_ ?_
             ·rcases Bool.eq_false_or_eq_true (s503.2) with hb572 | hb572
              ·have hr573 := if_p hb572 hx570
               refine drG 38 mixed (by kernel_rfl) rfl (dt rfl (m1 rfl fin1) (dt rfl (m1 rfl fin1) (dt rfl (gF rfl rfl (hb572) rfl fin1) (dt rfl (gF rfl rfl (hb572) rfl fin1) (dt rfl (gF rfl rfl (hb572) rfl fin1) (dt rfl (gF rfl rfl (hb572) rfl fin1) (dt rfl (gF rfl rfl (hb572) rfl fin1) (dt rfl (gF rfl rfl (hb572) rfl fin1) (dt rfl (gF rfl rfl (hb572) rfl fin1) (dt rfl (gF rfl rfl (hb572) rfl fin1) (dt rfl (gF rfl rfl (hb572) rfl fin1) ?_)))))))))))
               refine dt rfl (gU rfl rfl rfl fin1) (dt rfl (gU rfl rfl rfl fin1) (dt rfl (gU rfl rfl rfl fin1) (dt rfl (gU rfl rfl rfl fin1) (dt rfl (gU rfl rfl rfl fin1) (dt rfl (gU rfl rfl rfl fin1) (dt rfl (gU rfl rfl rfl fin1) (dt rfl (gU rfl rfl rfl fin1) (dt rfl (gF rfl rfl (hb572) rfl fin1) (dt rfl (gF rfl rfl (hb572) rfl fin1) (dt rfl (gU rfl rfl rfl fin1) (dt rfl (gU rfl rfl rfl fin1) ?_)))))))))))
               refine dt rfl (gU rfl rfl rfl fin1) (dt rfl (gU rfl rfl rfl fin1) (dt rfl (gU rfl rfl rfl fin1) (dt rfl (gU rfl rfl rfl fin1) (dt rfl (gU rfl rfl rfl fin1) (dt rfl (gU rfl rfl rfl fin1) (dt rfl (gF rfl rfl (hb572) rfl fin1) (dt rfl (gF rfl rfl (hb572) rfl fin1) (dt rfl (gU rfl rfl rfl fin1) (dt rfl (gU rfl rfl rfl fin1) (dt rfl (gU rfl rfl rfl fin1) (dt rfl (gU rfl rfl rfl fin1) ?_)))))))))))
               refine dt rfl (gU rfl rfl rfl fin1) (dt rfl (gU rfl rfl rfl fin1) (dt rfl (gU rfl rfl rfl fin1) (DF.nil fun K574 hF => (gU rfl rfl rfl (gF rfl rfl (hb572) rfl (pT rfl rfl (hb572) rfl (a1 rfl (on ?_))))))))
               cases hr573
               intro a w hS hA
               exact ⟨hS.selH [1, 2, 3, 4, 5, 6, 7, 8, 9, 10] rfl, hA.cut ⟨rfl, rfl, rfl, rfl, rfl, rfl, tv⟩⟩
              ·have hr575 := if_f hb572 hx570
               by_cases hb576 : x450.kind = x541.kind
               ·have hr577 := if_p hb576 hr575
                by_cases hb578 : x458.kind = x541.kind
                ·have hr579 := if_p hb578 hr577
                 by_cases hb580 : x450.value = x541.old_
                 ·have hr581 := if_p hb580 hr579
                  refine drG 38 mixed (by kernel_rfl) rfl (dt rfl (m1 rfl fin1) (dt rfl (m1 rfl fin1) (dt rfl (gN rfl rfl (hb572) (m1 rfl fin1)) (dt rfl (gN rfl rfl (hb572) (m1 rfl fin1)) (dt rfl (gN rfl rfl (hb572) (iaP U49 Z79 rfl rfl rfl rfl (lt_of hx451) fin1)) (dt rfl (gN rfl rfl (hb572) (fb 0 U79 rfl rfl rfl rfl Z5 fin1)) (dt rfl (gN rfl rfl (hb572) (ld G5 rfl rfl ((sS 5 rfl hq456).take 1) rfl fin1)) (dt rfl (gN rfl rfl (hb572) (fb 0 U48 rfl rfl rfl rfl Z5 fin1)) (dt rfl (gN rfl rfl (hb572) (ld G5 rfl rfl ((sS 1 rfl hK551).take 1) rfl fin1)) (dt rfl (gN rfl rfl (hb572) (eqI rfl rfl rfl fin1)) (dt rfl (gN rfl rfl (hb572) (m1 rfl fin1)) ?_)))))))))))
                  refine dt rfl (gt hb576 rfl (m1 rfl fin1)) (dt rfl (gt hb576 rfl (m1 rfl fin1)) (dt rfl (gt hb576 rfl (iaP U49 Z79 rfl rfl rfl rfl (lt_of hx459) fin1)) (dt rfl (gt hb576 rfl (fb 0 U79 rfl rfl rfl rfl Z5 fin1)) (dt rfl (gt hb576 rfl (ld G5 rfl rfl ((sS 3 rfl hq464).take 1) rfl fin1)) (dt rfl (gt hb576 rfl (fb 0 U48 rfl rfl rfl rfl Z5 fin1)) (dt rfl (gt hb576 rfl (ld G5 rfl rfl ((sS 1 rfl hK551).take 1) rfl fin1)) (dt rfl (gt hb576 rfl (eqI rfl rfl rfl fin1)) (dt rfl (gN rfl rfl (hb572) (pt hb576 rfl rfl fin1)) (dt rfl (gN rfl rfl (hb572) (m1 rfl fin1)) (dt rfl (gt hb578 rfl (m1 rfl fin1)) (dt rfl (gt hb578 rfl (m1 rfl fin1)) ?_)))))))))))
                  refine dt rfl (gt hb578 rfl (iaP U49 Z79 rfl rfl rfl rfl (lt_of hx451) fin1)) (dt rfl (gt hb578 rfl (fb 1 U79 rfl rfl rfl rfl Z3 fin1)) (dt rfl (gt hb578 rfl (ld G3 rfl rfl ((sS 5 rfl hq456).drop 1) rfl fin1)) (dt rfl (gt hb578 rfl (fb 1 U48 rfl rfl rfl rfl Z3 fin1)) (dt rfl (gt hb578 rfl (ld G3 rfl rfl (((sS 1 rfl hK551).drop 1).take 1) rfl fin1)) (dt rfl (gt hb578 rfl (eqI rfl rfl rfl fin1)) (dt rfl (gN rfl rfl (hb572) (pt hb578 rfl rfl fin1)) (dt rfl (gN rfl rfl (hb572) (m1 rfl fin1)) (dt rfl (gt hb580 rfl (m1 rfl fin1)) (dt rfl (gt hb580 rfl (m1 rfl fin1)) (dt rfl (gt hb580 rfl (iaP U49 Z79 rfl rfl rfl rfl (lt_of hx459) fin1)) (dt rfl (gt hb580 rfl (fb 1 U79 rfl rfl rfl rfl Z3 fin1)) ?_)))))))))))
                  refine dt rfl (gt hb580 rfl (ld G3 rfl rfl ((sS 3 rfl hq464).drop 1) rfl fin1)) (dt rfl (gt hb580 rfl (fb 2 U48 rfl rfl rfl rfl Z3 fin1)) (dt rfl (gt hb580 rfl (ld G3 rfl rfl ((sS 1 rfl hK551).drop 2) rfl fin1)) (DF.nil fun K582 hF => (gt hb580 rfl (eqI rfl rfl rfl (gN rfl rfl (hb572) (pt hb580 rfl rfl (pF rfl rfl (hb572) rfl (a1 rfl (on ?_))))))))))
                  cases hr581
                  intro a w hS hA
                  exact ⟨hS.selH [1, 2, 3, 4, 5, 6, 7, 8, 9, 10] rfl, hA.cut ⟨rfl, rfl, rfl, rfl, rfl, rfl, tv⟩⟩
                 ·have hr583 := if_n hb580 hr579
                  refine drG 38 mixed (by kernel_rfl) rfl (dt rfl (m1 rfl fin1) (dt rfl (m1 rfl fin1) (dt rfl (gN rfl rfl (hb572) (m1 rfl fin1)) (dt rfl (gN rfl rfl (hb572) (m1 rfl fin1)) (dt rfl (gN rfl rfl (hb572) (iaP U49 Z79 rfl rfl rfl rfl (lt_of hx451) fin1)) (dt rfl (gN rfl rfl (hb572) (fb 0 U79 rfl rfl rfl rfl Z5 fin1)) (dt rfl (gN rfl rfl (hb572) (ld G5 rfl rfl ((sS 5 rfl hq456).take 1) rfl fin1)) (dt rfl (gN rfl rfl (hb572) (fb 0 U48 rfl rfl rfl rfl Z5 fin1)) (dt rfl (gN rfl rfl (hb572) (ld G5 rfl rfl ((sS 1 rfl hK551).take 1) rfl fin1)) (dt rfl (gN rfl rfl (hb572) (eqI rfl rfl rfl fin1)) (dt rfl (gN rfl rfl (hb572) (m1 rfl fin1)) ?_)))))))))))
                  refine dt rfl (gt hb576 rfl (m1 rfl fin1)) (dt rfl (gt hb576 rfl (m1 rfl fin1)) (dt rfl (gt hb576 rfl (iaP U49 Z79 rfl rfl rfl rfl (lt_of hx459) fin1)) (dt rfl (gt hb576 rfl (fb 0 U79 rfl rfl rfl rfl Z5 fin1)) (dt rfl (gt hb576 rfl (ld G5 rfl rfl ((sS 3 rfl hq464).take 1) rfl fin1)) (dt rfl (gt hb576 rfl (fb 0 U48 rfl rfl rfl rfl Z5 fin1)) (dt rfl (gt hb576 rfl (ld G5 rfl rfl ((sS 1 rfl hK551).take 1) rfl fin1)) (dt rfl (gt hb576 rfl (eqI rfl rfl rfl fin1)) (dt rfl (gN rfl rfl (hb572) (pt hb576 rfl rfl fin1)) (dt rfl (gN rfl rfl (hb572) (m1 rfl fin1)) (dt rfl (gt hb578 rfl (m1 rfl fin1)) (dt rfl (gt hb578 rfl (m1 rfl fin1)) ?_)))))))))))
                  refine dt rfl (gt hb578 rfl (iaP U49 Z79 rfl rfl rfl rfl (lt_of hx451) fin1)) (dt rfl (gt hb578 rfl (fb 1 U79 rfl rfl rfl rfl Z3 fin1)) (dt rfl (gt hb578 rfl (ld G3 rfl rfl ((sS 5 rfl hq456).drop 1) rfl fin1)) (dt rfl (gt hb578 rfl (fb 1 U48 rfl rfl rfl rfl Z3 fin1)) (dt rfl (gt hb578 rfl (ld G3 rfl rfl (((sS 1 rfl hK551).drop 1).take 1) rfl fin1)) (dt rfl (gt hb578 rfl (eqI rfl rfl rfl fin1)) (dt rfl (gN rfl rfl (hb572) (pt hb578 rfl rfl fin1)) (dt rfl (gN rfl rfl (hb572) (m1 rfl fin1)) (dt rfl (gf hb580 rfl fin1) (dt rfl (gf hb580 rfl fin1) (dt rfl (gf hb580 rfl fin1) (dt rfl (gf hb580 rfl fin1) ?_)))))))))))
                  refine dt rfl (gf hb580 rfl fin1) (dt rfl (gf hb580 rfl fin1) (dt rfl (gf hb580 rfl fin1) (DF.nil fun K584 hF => (gf hb580 rfl (gN rfl rfl (hb572) (pf hb580 rfl rfl (pF rfl rfl (hb572) rfl (a1 rfl (on ?_)))))))))
                  cases hr583
                  intro a w hS hA
                  exact ⟨hS.selH [1, 2, 3, 4, 5, 6, 7, 8, 9, 10] rfl, hA.cut ⟨rfl, rfl, rfl, rfl, rfl, rfl, tv⟩⟩
                ·have hr585 := if_n hb578 hr577
                 refine drG 38 mixed (by kernel_rfl) rfl (dt rfl (m1 rfl fin1) (dt rfl (m1 rfl fin1) (dt rfl (gN rfl rfl (hb572) (m1 rfl fin1)) (dt rfl (gN rfl rfl (hb572) (m1 rfl fin1)) (dt rfl (gN rfl rfl (hb572) (iaP U49 Z79 rfl rfl rfl rfl (lt_of hx451) fin1)) (dt rfl (gN rfl rfl (hb572) (fb 0 U79 rfl rfl rfl rfl Z5 fin1)) (dt rfl (gN rfl rfl (hb572) (ld G5 rfl rfl ((sS 5 rfl hq456).take 1) rfl fin1)) (dt rfl (gN rfl rfl (hb572) (fb 0 U48 rfl rfl rfl rfl Z5 fin1)) (dt rfl (gN rfl rfl (hb572) (ld G5 rfl rfl ((sS 1 rfl hK551).take 1) rfl fin1)) (dt rfl (gN rfl rfl (hb572) (eqI rfl rfl rfl fin1)) (dt rfl (gN rfl rfl (hb572) (m1 rfl fin1)) ?_)))))))))))
                 refine dt rfl (gt hb576 rfl (m1 rfl fin1)) (dt rfl (gt hb576 rfl (m1 rfl fin1)) (dt rfl (gt hb576 rfl (iaP U49 Z79 rfl rfl rfl rfl (lt_of hx459) fin1)) (dt rfl (gt hb576 rfl (fb 0 U79 rfl rfl rfl rfl Z5 fin1)) (dt rfl (gt hb576 rfl (ld G5 rfl rfl ((sS 3 rfl hq464).take 1) rfl fin1)) (dt rfl (gt hb576 rfl (fb 0 U48 rfl rfl rfl rfl Z5 fin1)) (dt rfl (gt hb576 rfl (ld G5 rfl rfl ((sS 1 rfl hK551).take 1) rfl fin1)) (dt rfl (gt hb576 rfl (eqI rfl rfl rfl fin1)) (dt rfl (gN rfl rfl (hb572) (pt hb576 rfl rfl fin1)) (dt rfl (gN rfl rfl (hb572) (m1 rfl fin1)) (dt rfl (gf hb578 rfl fin1) (dt rfl (gf hb578 rfl fin1) ?_)))))))))))
                 refine dt rfl (gf hb578 rfl fin1) (dt rfl (gf hb578 rfl fin1) (dt rfl (gf hb578 rfl fin1) (dt rfl (gf hb578 rfl fin1) (dt rfl (gf hb578 rfl fin1) (dt rfl (gf hb578 rfl fin1) (dt rfl (gN rfl rfl (hb572) (pf hb578 rfl rfl fin1)) (dt rfl (gN rfl rfl (hb572) (m1 rfl fin1)) (dt rfl (gF rfl rfl rfl rfl fin1) (dt rfl (gF rfl rfl rfl rfl fin1) (dt rfl (gF rfl rfl rfl rfl fin1) (dt rfl (gF rfl rfl rfl rfl fin1) ?_)))))))))))
                 refine dt rfl (gF rfl rfl rfl rfl fin1) (dt rfl (gF rfl rfl rfl rfl fin1) (dt rfl (gF rfl rfl rfl rfl fin1) (DF.nil fun K586 hF => (gF rfl rfl rfl rfl (gN rfl rfl (hb572) (pF rfl rfl rfl rfl (pF rfl rfl (hb572) rfl (a1 rfl (on ?_)))))))))
                 cases hr585
                 intro a w hS hA
                 exact ⟨hS.selH [1, 2, 3, 4, 5, 6, 7, 8, 9, 10] rfl, hA.cut ⟨rfl, rfl, rfl, rfl, rfl, rfl, tv⟩⟩
               ·have hr587 := if_n hb576 hr575
                refine drG 38 mixed (by kernel_rfl) rfl (dt rfl (m1 rfl fin1) (dt rfl (m1 rfl fin1) (dt rfl (gN rfl rfl (hb572) (m1 rfl fin1)) (dt rfl (gN rfl rfl (hb572) (m1 rfl fin1)) (dt rfl (gN rfl rfl (hb572) (iaP U49 Z79 rfl rfl rfl rfl (lt_of hx451) fin1)) (dt rfl (gN rfl rfl (hb572) (fb 0 U79 rfl rfl rfl rfl Z5 fin1)) (dt rfl (gN rfl rfl (hb572) (ld G5 rfl rfl ((sS 5 rfl hq456).take 1) rfl fin1)) (dt rfl (gN rfl rfl (hb572) (fb 0 U48 rfl rfl rfl rfl Z5 fin1)) (dt rfl (gN rfl rfl (hb572) (ld G5 rfl rfl ((sS 1 rfl hK551).take 1) rfl fin1)) (dt rfl (gN rfl rfl (hb572) (eqI rfl rfl rfl fin1)) (dt rfl (gN rfl rfl (hb572) (m1 rfl fin1)) ?_)))))))))))
                refine dt rfl (gf hb576 rfl fin1) (dt rfl (gf hb576 rfl fin1) (dt rfl (gf hb576 rfl fin1) (dt rfl (gf hb576 rfl fin1) (dt rfl (gf hb576 rfl fin1) (dt rfl (gf hb576 rfl fin1) (dt rfl (gf hb576 rfl fin1) (dt rfl (gf hb576 rfl fin1) (dt rfl (gN rfl rfl (hb572) (pf hb576 rfl rfl fin1)) (dt rfl (gN rfl rfl (hb572) (m1 rfl fin1)) (dt rfl (gF rfl rfl rfl rfl fin1) (dt rfl (gF rfl rfl rfl rfl fin1) ?_)))))))))))
                refine dt rfl (gF rfl rfl rfl rfl fin1) (dt rfl (gF rfl rfl rfl rfl fin1) (dt rfl (gF rfl rfl rfl rfl fin1) (dt rfl (gF rfl rfl rfl rfl fin1) (dt rfl (gF rfl rfl rfl rfl fin1) (dt rfl (gF rfl rfl rfl rfl fin1) (dt rfl (gN rfl rfl (hb572) (pF rfl rfl rfl rfl fin1)) (dt rfl (gN rfl rfl (hb572) (m1 rfl fin1)) (dt rfl (gF rfl rfl rfl rfl fin1) (dt rfl (gF rfl rfl rfl rfl fin1) (dt rfl (gF rfl rfl rfl rfl fin1) (dt rfl (gF rfl rfl rfl rfl fin1) ?_)))))))))))
                refine dt rfl (gF rfl rfl rfl rfl fin1) (dt rfl (gF rfl rfl rfl rfl fin1) (dt rfl (gF rfl rfl rfl rfl fin1) (DF.nil fun K588 hF => (gF rfl rfl rfl rfl (gN rfl rfl (hb572) (pF rfl rfl rfl rfl (pF rfl rfl (hb572) rfl (a1 rfl (on ?_)))))))))
                cases hr587
                intro a w hS hA
                exact ⟨hS.selH [1, 2, 3, 4, 5, 6, 7, 8, 9, 10] rfl, hA.cut ⟨rfl, rfl, rfl, rfl, rfl, rfl, tv⟩⟩
             ·rintro a w ⟨hS, hA⟩
              refine TG.ap ?_ hS hA
              refine rg (m1 rfl (adI rfl rfl rfl (by omega) (a1 rfl (on ?_))))
              cases hr571
              intro a w hS hA
              exact ⟨_, hz505, hS.selH [1, 2, 3, 4, 5, 6, 7, 8, 9] rfl, hA.cut ⟨rfl, rfl, rfl, rfl, rfl, rfl, tv⟩⟩
            ·have hr589 := if_n hc510 hr504
             refine xt rfl ?_
             cases hr589
             obtain rfl := Fin.out hz505
             exact cu ⟨rfl, rfl, rfl, rfl, rfl, tv⟩
          ·rintro a w ⟨hS, hA⟩
           refine TG.ap ?_ hS hA
           refine sq (rg (m1 rfl (nt rfl rfl (on ?_))))
           refine cb rfl (fun hc593 => ?_) (fun hc593 => ?_)
           ·replace hc593 := nbt hc593
            have hr594 := if_f hc593 hr502
            refine sq (rg (a1 rfl (on (rt_ ?_))))
            cases hr594
            obtain rfl := Fin.out hz389
            cases hr385
            intro a w hS hA
            refine ret1 hA rfl rfl ?_
            exact ⟨rfl, hS.ext⟩
           ·replace hc593 := nbf hc593
            have hr595 := if_p hc593 hr502
            refine sk (rg (m1 rfl (adI rfl rfl rfl (by omega) (a1 rfl (on ?_)))))
            cases hr595
            intro a w hS hA
            exact ⟨_, hz389, hS.selH [1, 2, 3, 4, 5, 6, 7, 8] rfl, hA.cut ⟨rfl, rfl, rfl, rfl, tv⟩⟩
         ·have hr596 := if_n hc394 hr388
          refine xt rfl ?_
          cases hr596
          obtain rfl := Fin.out hz389
          intro a w hS hA
          exact ⟨_, rfl, hS, hA.cut tv⟩
       ·rintro a w ⟨t386, rfl, hS, hA⟩
        refine TG.ap ?_ hS hA
        refine sq (rg ?_)
        obtain ⟨r597, hx598, hr599⟩ := bd_some hr385
        refine clS C17 rfl rfl rfl rfl (fun w H hH le => w17 hH (hg.mono (le.at 7 rfl))  hx598) (a1 rfl (on (rt_ ?_)))
        cases hr599
        intro a w hS hA
        refine ret1 hA rfl rfl ?_
        exact ⟨rfl, hS.ext⟩

end T4
