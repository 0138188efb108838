/-
 Walks of functions of a volume and an index: each call comes to what the model says. Printed by a program of ours.
-/
import Derived.Test.YtjehjogdlamghaaGreatDoorWalkB
set_option linter.all false
set_option maxHeartbeats 4000000
namespace T10
open Go Go.Proofs Pk
theorem w4 {M : Prop} {W : World} {H : Hp} (hH : H.le (hp W)) (hg : Gv M H) {cs_v_0 : List Value} (v_0 : Volume) (h_v_0 : (RVolume) H cs_v_0 v_0) {ad_errata : Option Addr} {cap_errata : Nat} {errata : List Erratum} (h_errata : Sl (Flat encErratum) 6 H ad_errata cap_errata errata) (column : Int) {r : Bool} (hr : m4 v_0 errata column = some r) : Calls Tryz.prog 4 [.agg cs_v_0.toArray, .slice ad_errata errata.length cap_errata, .int .u8 column].toArray W (RetS M W (.bool r)) := by
 have hh_v_0 := h_v_0
 obtain ⟨ad1, cap2, rfl, hl3⟩ := h_v_0
 have := hl3.len
 have := h_errata.len
 unfold m4 at hr
 refine enterG (M := M) Tryz.func4 rfl Tryz.ntmps4 rfl hH ?_
 refine sq (rg (bI (cs := [.int .i64 v_0.number, .int .i64 v_0.bound, .int .i64 v_0.height, .int .i64 v_0.width, .slice ad1 v_0.parts.length cap2]) rfl rfl rfl fun q4 K5 hK6 => (a1 rfl (on (sq (sq ?_))))))
 obtain ⟨t22, hx23, hr24⟩ := bd_some hr
 refine jn (fun a w => St M W H [K5, H] [] w ∧ Has [] 198 a [(1, .slice ad_errata errata.length cap_errata), (2, .int .u8 column), (3, .pointer (some q4)), (38, .bool t22)]) ?_ ?_
 ·refine rg (ldA G24 Z24 rfl rfl (sS 0 rfl hK6) rfl (m1 rfl ?_))
  obtain ⟨r25, hx26, hr27⟩ := bd_some hx23
  refine clS C5 rfl rfl rfl rfl (fun w H hH le => w5 hH v_0 (RVolume.mono _ _ _ _ (le.at 1 rfl) hh_v_0) (h_errata.mono (Flat.mono _) (le.at 1 rfl)) hx26) (nt rfl rfl (m1 rfl ?_))
  rcases Bool.eq_false_or_eq_true (r25) with hb28 | hb28
  ·have hr29 := if_p hb28 hr27
   refine gN rfl rfl (congrArg not (hb28)) (ldA G24 Z24 rfl rfl (sS 0 rfl hK6) rfl (gN rfl rfl (congrArg not (hb28)) ?_))
   obtain ⟨r30, hx31, hr32⟩ := bd_some hr29
   refine clS C6 rfl rfl rfl rfl (fun w H hH le => w6 hH v_0 (RVolume.mono _ _ _ _ (le.at 1 rfl) hh_v_0) hx31) (gN rfl rfl (congrArg not (hb28)) (neI rfl rfl rfl (pF rfl rfl (congrArg not (hb28)) rfl (m1 rfl ?_))))
   by_cases hb33 : r30 ≠ 0
   ·have hr34 := if_p hb33 hr32
    refine gf' hb33 rfl (gf' hb33 rfl (gf' hb33 rfl (gf' hb33 rfl (pt hb33 rfl rfl (on ?_)))))
    cases hr34
    exact cu ⟨rfl, rfl, rfl, rfl, tv⟩
   ·have hr35 := if_n hb33 hr32
    refine gt' hb33 rfl (ldA G24 Z24 rfl rfl (sS 0 rfl hK6) rfl (gt' hb33 rfl (m1 rfl (gt' hb33 rfl ?_))))
    obtain ⟨r36, hx37, hr38⟩ := bd_some hr35
    refine clS C7 rfl rfl rfl rfl (fun w H hH le => w7 hH v_0 (RVolume.mono _ _ _ _ (le.at 1 rfl) hh_v_0) (h_errata.mono (Flat.mono _) (le.at 1 rfl)) hx37) (gt' hb33 rfl (neI rfl rfl rfl (pf hb33 rfl rfl (on ?_))))
    cases hr38
    exact cu ⟨rfl, rfl, rfl, rfl, tv⟩
  ·have hr39 := if_f hb28 hr27
   refine gF rfl rfl (congrArg not (hb28)) rfl (gF rfl rfl (congrArg not (hb28)) rfl (gF rfl rfl (congrArg not (hb28)) rfl (pT rfl rfl (congrArg not (hb28)) rfl (m1 rfl (gF rfl rfl rfl rfl (gF rfl rfl rfl rfl (gF rfl rfl rfl rfl (gF rfl rfl rfl rfl (pT rfl rfl rfl rfl (on ?_))))))))))
   cases hr39
   exact cu ⟨rfl, rfl, rfl, rfl, tv⟩
 ·rintro a w ⟨hS, hA⟩
  refine TG.ap ?_ hS hA
  refine cb rfl (fun hc46 => ?_) (fun hc46 => ?_)
  ·have hr47 := if_p hc46 hr24
   refine sq (rg ?_)
   obtain ⟨r48, hx49, hr50⟩ := bd_some hr47
   refine clS C21 rfl rfl rfl rfl (fun w H hH le => w21 hH (hg.mono (le.at 1 rfl))  hx49) (a1 rfl (on (rt_ ?_)))
   cases hr50
   intro a w hS hA
   refine ret1 hA rfl rfl ?_
   exact ⟨rfl, hS.ext⟩
  ·have hr51 := if_f hc46 hr24
   refine sk (sq (rg (ldA G24 Z24 rfl rfl (sS 0 rfl hK6) rfl ?_)))
   obtain ⟨r52, hx53, hr54⟩ := bd_some hr51
   refine clK C11 rfl rfl rfl rfl (fun w H hH le => w11 hH v_0 (RVolume.mono _ _ _ _ (le.at 1 rfl) hh_v_0) hx53) ?_
   rintro v_ K55 ⟨cs56, rfl, hr57⟩
   have hr58 := hr57
   obtain ⟨ad59, cap60, rfl, hl61⟩ := hr57
   have := hl61.len
   refine m1 rfl ?_
   obtain ⟨r62, hx63, hr64⟩ := bd_some hr54
   refine clK C12 rfl rfl rfl rfl (fun w H hH le => w12 hH (h_errata.mono (Flat.mono _) (le.at 2 rfl)) hx63) ?_
   rintro v_ K65 ⟨ad66, cap67, rfl, hl68⟩
   have := hl68.len
   obtain ⟨r69, hx70, hr71⟩ := bd_some hr64
   refine clK C22 rfl rfl rfl rfl (fun w H hH le => w22 hH r52 (RVolume.mono _ _ _ _ (le.at 1 rfl) hr58) (hl68.mono (Flat.mono _) (le.at 0 rfl)) hx70) ?_
   rintro v_ K72 ⟨ad73, cap74, rfl, hl75⟩
   have := hl75.len
   refine m1 rfl (ex rfl rfl rfl (ex rfl rfl rfl (a1 rfl (a1 rfl (on (sq (sq (rg (m1 rfl (neI rfl rfl rfl (on ?_)))))))))))
   refine ci rfl (fun hc79 => ?_) (fun hc79 => ?_)
   ·have hr80 := if_p hc79 hr71
    refine sq (rg (a1 rfl (on (rt_ ?_))))
    cases hr80
    intro a w hS hA
    refine ret1 hA rfl rfl ?_
    exact ⟨rfl, hS.ext⟩
   ·have hr81 := if_n hc79 hr71
    refine sk (sq (rg ?_))
    obtain ⟨hk82, hr83⟩ := chk_some hr81
    have : (List.replicate 1000 ([] : Bytes)).length = 1000 := List.length_replicate
    refine mkL 1 encS ([] : Bytes) T10.E77 rfl rfl rfl rfl rfl rfl rfl hk82 fun b84 => (a1 rfl (on (sq (sq (rg (a1 rfl (on ?_)))))))
    obtain ⟨e113, hl114, hr115⟩ := bd_some hr83
    refine jn (fun a w => St M W H [K72, K65, K55, K5, H] [(1, Own.list (some ⟨b84, 0, none⟩) 1000 9 1 encS e113)] w ∧ Has [] 198 a [(1, .slice ad_errata errata.length cap_errata), (2, .int .u8 column), (3, .pointer (some q4)), (7, .slice ad73 r69.1.length cap74), (9, .slice (some ⟨b84, 0, none⟩) ((List.replicate 1000 ([] : Bytes)).length) 1000)] ∧ e113.length = (List.replicate 1000 ([] : Bytes)).length) ?_ ?_
    ·refine bk ?_
     refine lp hl114 (fun s117 a w => St M W H [K72, K65, K55, K5, H] [(1, Own.list (some ⟨b84, 0, none⟩) 1000 9 1 encS s117.2)] w ∧ Has [] 198 a [(1, .slice ad_errata errata.length cap_errata), (2, .int .u8 column), (3, .pointer (some q4)), (7, .slice ad73 r69.1.length cap74), (9, .slice (some ⟨b84, 0, none⟩) ((List.replicate 1000 ([] : Bytes)).length) 1000), (10, .int .i64 (s117.1 : Int))] ∧ s117.2.length = (List.replicate 1000 ([] : Bytes)).length) ?_ ?_
     ·intro a w hS hA
      exact ⟨hS, hA.cut ⟨rfl, rfl, rfl, rfl, rfl, rfl, tv⟩, rfl⟩
     ·rintro j s117 y121 hr119 hz120 a w ⟨hS, hA, hln118⟩
      refine TG.ap ?_ hS hA
      unfold m4_1 at hr119
      refine sq (sq (rg (m1 rfl (ltI rfl rfl rfl (on ?_)))))
      refine ci rfl (fun hc125 => ?_) (fun hc125 => ?_)
      ·have hr126 := if_p hc125 hr119
       refine sk (sq (bk (rg (m1 rfl (m1 rfl (m1 rfl (adI rfl rfl rfl (by omega) ?_)))))))
       obtain ⟨r136, hx137, hr138⟩ := bd_some hr126
       refine clS C23 rfl rfl rfl rfl (fun w H hH le => w23 (1000 + (s117.1 : Int)) hx137) ?_
       obtain ⟨hk139, hr140⟩ := chk_some hr138
       refine ssF 1 U9 rfl rfl rfl rfl hk139 ?_
       obtain ⟨x141, hx142, hr143⟩ := bd_some hr140
       refine iaP U77 Z9 rfl rfl rfl rfl (Nat.lt_of_lt_of_eq (lt_of hx142) hln118) ?_
       have hln144 : (s117.2.set s117.1 (r136.drop 1)).length = (List.replicate 1000 ([] : Bytes)).length := (lenS _ _ _).trans hln118
       refine stE 1 (r136.drop 1) (q := ⟨b84, 0, none⟩) (j := s117.1) (size := 1) (cs := [.string (bs (r136.drop 1))]) (off := 0) Z9 rfl rfl rfl (fun _ => rfl) hx142 rfl rfl rfl rfl rfl (on (rg (m1 rfl (adI rfl rfl rfl (by omega) (a1 rfl (on ?_))))))
       cases hr143
       intro a w hS hA
       exact ⟨_, hz120, hS, hA.cut ⟨rfl, rfl, rfl, rfl, rfl, rfl, tv⟩, hln144⟩
      ·have hr145 := if_n hc125 hr119
       refine xt rfl ?_
       cases hr145
       obtain rfl := Fin.out hz120
       intro a w hS hA
       exact ⟨hS, hA.cut ⟨rfl, rfl, rfl, rfl, rfl, tv⟩, hln118⟩
    ·rintro a w ⟨hS, hA, hln116⟩
     refine TG.ap ?_ hS hA
     refine sq (rg (a1 rfl (on (sq (sq (rg (a1 rfl (on (TG.nilRow 3 86 4 ?_)))))))))
     have hR405 : Rows (RHeading) 4 H [] ([] : List Heading) := tv
     refine TG.as 3 (z := Own.rows none 0 86 4 [] ([] : List Heading)) rfl rfl ?_
     obtain ⟨e713, hl714, hr715⟩ := bd_some hr115
     refine jn (fun a w => ∃ (ad716 : Option Addr) (cap717 : Nat) (css718 : List (List Value)) (K719 : Hp), St M W H [K719, K72, K65, K55, K5, H] [(3, Own.rows ad716 cap717 86 4 css718 e713), (1, Own.list (some ⟨b84, 0, none⟩) 1000 9 1 encS e113)] w ∧ Has [] 198 a [(1, .slice ad_errata errata.length cap_errata), (2, .int .u8 column), (3, .pointer (some q4)), (7, .slice ad73 r69.1.length cap74), (9, .slice (some ⟨b84, 0, none⟩) ((List.replicate 1000 ([] : Bytes)).length) 1000), (11, .slice ad716 e713.length cap717)] ∧ Rows (RHeading) 4 K719 css718 e713) ?_ ?_
     ·refine bk ?_
      refine lp hl714 (fun s721 a w => ∃ (ad722 : Option Addr) (cap723 : Nat) (css724 : List (List Value)) (K725 : Hp), St M W H [K725, K72, K65, K55, K5, H] [(3, Own.rows ad722 cap723 86 4 css724 s721.2), (1, Own.list (some ⟨b84, 0, none⟩) 1000 9 1 encS e113)] w ∧ Has [] 198 a [(1, .slice ad_errata errata.length cap_errata), (2, .int .u8 column), (3, .pointer (some q4)), (7, .slice ad73 r69.1.length cap74), (9, .slice (some ⟨b84, 0, none⟩) ((List.replicate 1000 ([] : Bytes)).length) 1000), (11, .slice ad722 s721.2.length cap723), (12, .int .i64 (s721.1 : Int))] ∧ Rows (RHeading) 4 K725 css724 s721.2) ?_ ?_
      ·intro a w hS hA
       exact ⟨none, 0, [], H, hS.selH [4, 0, 1, 2, 3, 4] rfl, hA.cut ⟨rfl, rfl, rfl, rfl, rfl, rfl, rfl, tv⟩, hR405⟩
      ·rintro j s721 y729 hr727 hz728 a w ⟨ad722, cap723, css724, K725, hS, hA, hR726⟩
       refine TG.ap ?_ hS hA
       unfold m4_2 at hr727
       refine sq (sq (rg (m1 rfl (ltI rfl rfl rfl (on ?_)))))
       refine ci rfl (fun hc733 => ?_) (fun hc733 => ?_)
       ·have hr734 := if_p hc733 hr727
        refine sk (sq (bk (sq (rg (a1 rfl (on ?_))))))
        obtain ⟨e1013, hl1014, hr1015⟩ := bd_some hr734
        refine jn (fun a w => ∃ (ad1016 : Option Addr) (cap1017 : Nat) (css1018 : List (List Value)) (K1019 : Hp), St M W H [K1019, K725, K72, K65, K55, K5, H] [(3, Own.rows ad1016 cap1017 86 4 css1018 e1013), (1, Own.list (some ⟨b84, 0, none⟩) 1000 9 1 encS e113)] w ∧ Has [] 198 a [(1, .slice ad_errata errata.length cap_errata), (2, .int .u8 column), (3, .pointer (some q4)), (7, .slice ad73 r69.1.length cap74), (9, .slice (some ⟨b84, 0, none⟩) ((List.replicate 1000 ([] : Bytes)).length) 1000), (11, .slice ad1016 e1013.length cap1017), (12, .int .i64 (s721.1 : Int))] ∧ Rows (RHeading) 4 K1019 css1018 e1013) ?_ ?_
        ·refine bk ?_
         refine lp hl1014 (fun s1021 a w => ∃ (ad1022 : Option Addr) (cap1023 : Nat) (css1024 : List (List Value)) (K1025 : Hp), St M W H [K1025, K725, K72, K65, K55, K5, H] [(3, Own.rows ad1022 cap1023 86 4 css1024 s1021.2), (1, Own.list (some ⟨b84, 0, none⟩) 1000 9 1 encS e113)] w ∧ Has [] 198 a [(1, .slice ad_errata errata.length cap_errata), (2, .int .u8 column), (3, .pointer (some q4)), (7, .slice ad73 r69.1.length cap74), (9, .slice (some ⟨b84, 0, none⟩) ((List.replicate 1000 ([] : Bytes)).length) 1000), (11, .slice ad1022 s1021.2.length cap1023), (12, .int .i64 (s721.1 : Int)), (13, .int .i64 (s1021.1 : Int))] ∧ Rows (RHeading) 4 K1025 css1024 s1021.2) ?_ ?_
         ·intro a w hS hA
          exact ⟨ad722, cap723, css724, K725, hS.selH [0, 0, 1, 2, 3, 4, 5] rfl, hA.cut ⟨rfl, rfl, rfl, rfl, rfl, rfl, rfl, rfl, tv⟩, hR726⟩
         ·rintro j s1021 y1029 hr1027 hz1028 a w ⟨ad1022, cap1023, css1024, K1025, hS, hA, hR1026⟩
          refine TG.ap ?_ hS hA
          unfold m4_3 at hr1027
          refine sq (sq (rg (m1 rfl (m1 rfl (lnL U74 rfl rfl (ltI rfl rfl rfl (on ?_)))))))
          refine ci rfl (fun hc1033 => ?_) (fun hc1033 => ?_)
          ·have hr1034 := if_p hc1033 hr1027
           refine sk (sq (bk (sq (rg (m1 rfl (m1 rfl ?_))))))
           obtain ⟨x1094, hx1095, hr1096⟩ := bd_some hr1034
           obtain ⟨p1097, rfl⟩ := hl75.adr hx1095
           obtain ⟨cs1098, hcs1099, hq1100, hr1101⟩ := hl75.at hx1095
           obtain rfl := hr1101
           refine iaP U74 Z81 rfl rfl rfl rfl (lt_of hx1095) (ldA G81 Z81 rfl rfl (sS 2 rfl hq1100) rfl (va (cs := [.int .i64 x1094.anchor, .int .i64 x1094.column, .int .i64 x1094.line, .int .i64 x1094.lines]) Tryz.zeroValue81 Z81 rfl rfl rfl rfl rfl rfl rfl rfl fun q1102 K1103 hK1104 => (on (sq (rg (fb 0 U81 rfl rfl rfl rfl Z3 (ld G3 rfl rfl ((sS 0 rfl hK1104).take 1) rfl (m1 rfl (eqI rfl rfl rfl (on ?_))))))))))
           obtain ⟨t1147, hx1148, hr1149⟩ := bd_some hr1096
           refine jn (fun a w => ∃ (ad1150 : Option Addr) (cap1151 : Nat) (css1152 : List (List Value)) (K1153 : Hp), St M W H [K1153, K1103, K1025, K725, K72, K65, K55, K5, H] [(3, Own.rows ad1150 cap1151 86 4 css1152 t1147), (1, Own.list (some ⟨b84, 0, none⟩) 1000 9 1 encS e113)] w ∧ Has [] 198 a [(1, .slice ad_errata errata.length cap_errata), (2, .int .u8 column), (3, .pointer (some q4)), (7, .slice (some p1097) r69.1.length cap74), (9, .slice (some ⟨b84, 0, none⟩) ((List.replicate 1000 ([] : Bytes)).length) 1000), (11, .slice ad1150 t1147.length cap1151), (12, .int .i64 (s721.1 : Int)), (13, .int .i64 (s1021.1 : Int))] ∧ Rows (RHeading) 4 K1153 css1152 t1147) ?_ ?_
           ·refine ci rfl (fun hc1155 => ?_) (fun hc1155 => ?_)
            ·have hr1156 := if_p hc1155 hx1148
             obtain ⟨x1157, hx1158, hr1159⟩ := bd_some hr1156
             obtain ⟨hk1160, hr1161⟩ := chk_some hr1159
             obtain ⟨hk1162, hr1163⟩ := chk_some hr1161
             obtain ⟨hk1164, hr1165⟩ := chk_some hr1163
             obtain ⟨hk1166, hr1167⟩ := chk_some hr1165
             refine drG 25 mixed (by kernel_rfl) rfl (dt rfl (m1 rfl fin1) (dt rfl (m1 rfl fin1) (dt rfl (m1 rfl fin1) (dt rfl (iaP U77 Z9 rfl rfl rfl rfl (Nat.lt_of_lt_of_eq (lt_of hx1158) hln116) fin1) (dt rfl (ld G9 rfl rfl (sE 1 rfl (fun _ => rfl) hx1158) rfl fin1) (dt rfl (fb 0 U24 rfl rfl rfl rfl Z3 fin1) (dt rfl (ld G3 rfl rfl ((sS 7 rfl hK6).take 1) rfl fin1) (dt rfl (fb 1 U81 rfl rfl rfl rfl Z3 fin1) (dt rfl (ld G3 rfl rfl (((sS 1 rfl hK1104).drop 1).take 1) rfl fin1) (dt rfl (fb 1 U81 rfl rfl rfl rfl Z3 fin1) (dt rfl (ld G3 rfl rfl (((sS 1 rfl hK1104).drop 1).take 1) rfl fin1) ?_)))))))))))
             refine dt rfl (fb 2 U81 rfl rfl rfl rfl Z3 fin1) (dt rfl (ld G3 rfl rfl (((sS 1 rfl hK1104).drop 2).take 1) rfl fin1) (dt rfl (fb 3 U81 rfl rfl rfl rfl Z3 fin1) (dt rfl (ld G3 rfl rfl ((sS 1 rfl hK1104).drop 3) rfl fin1) (dt rfl (adI rfl rfl rfl hk1160 fin1) (dt rfl (sbI rfl rfl rfl hk1162 fin1) (dt rfl (fb 2 U24 rfl rfl rfl rfl Z3 fin1) (dt rfl (ld G3 rfl rfl (((sS 7 rfl hK6).drop 2).take 1) rfl fin1) (dt rfl (quI rfl rfl rfl hk1164 fin1) (dt rfl (adI rfl rfl rfl hk1166 fin1) (dt rfl (bu (cs := [.int .i64 v_0.number, .int .i64 x1094.column, .int .i64 (x1094.column + (((x1094.line + x1094.lines) - 2) / v_0.height))]) T10.B83 rfl rfl rfl fin1) ?_))))))))))
             refine DF.und (α := Option Addr × Nat) (none, 0) (fun q => .slice q.1 1 q.2) (fun (q : Option Addr × Nat) K => Sl (Flat encIPlace) 3 K q.1 q.2 ([(⟨v_0.number, x1094.column, (x1094.column + (((x1094.line + x1094.lines) - 2) / v_0.height))⟩ : IPlace)] : List IPlace)) (fun _ _ _ h x => x.mono (Flat.mono _) h) (by kernel_rfl) rfl (fun a w K hS hA hF => TG.pa hS hA (bS (cs := [.int .i64 v_0.number, .int .i64 x1094.column, .int .i64 (x1094.column + (((x1094.line + x1094.lines) - 2) / v_0.height))]) T10.E84 rfl rfl rfl rfl fun q1168 K1169 hq1170 hK1171 => by
               have hl1172 : Sl (Flat encIPlace) 3 K1169 (some q1168) 1 ([(⟨v_0.number, x1094.column, (x1094.column + (((x1094.line + x1094.lines) - 2) / v_0.height))⟩ : IPlace)] : List IPlace) := Sl.litR (css := [[.int .i64 v_0.number, .int .i64 x1094.column, .int .i64 (x1094.column + (((x1094.line + x1094.lines) - 2) / v_0.height))]]) (l := ([(⟨v_0.number, x1094.column, (x1094.column + (((x1094.line + x1094.lines) - 2) / v_0.height))⟩ : IPlace)] : List IPlace)) ⟨⟨rfl, rfl, rfl⟩, tv⟩ hq1170 hK1171 rfl
               have := hl1172.len
               exact finU (f := fun q => .slice q.1 1 q.2) (G := (fun (q : Option Addr × Nat) K => Sl (Flat encIPlace) 3 K q.1 q.2 ([(⟨v_0.number, x1094.column, (x1094.column + (((x1094.line + x1094.lines) - 2) / v_0.height))⟩ : IPlace)] : List IPlace))) (_, _) (fun _ _ _ h x => x.mono (Flat.mono _) h) hl1172)) ?_
             rintro ⟨ad1174, cap1175⟩
             refine DF.und () (fun _ => .agg [.string (bs x1157), .slice none 0 0, .slice none 0 0, .slice ad1174 1 cap1175].toArray) (fun _ K => Sl (Flat encIPlace) 3 K ad1174 cap1175 ([(⟨v_0.number, x1094.column, (x1094.column + (((x1094.line + x1094.lines) - 2) / v_0.height))⟩ : IPlace)] : List IPlace)) (fun _ _ _ h x => x.mono (Flat.mono _) h) (by kernel_rfl) rfl (fun a w K hS hA hF => TG.pa hS hA (bu (cs := [.string (bs x1157), .slice none 0 0, .slice none 0 0, .slice ad1174 1 cap1175]) T10.B86 rfl rfl rfl (finF (f := fun _ => .agg [.string (bs x1157), .slice none 0 0, .slice none 0 0, .slice ad1174 1 cap1175].toArray) (G := fun _ K => Sl (Flat encIPlace) 3 K ad1174 cap1175 ([(⟨v_0.number, x1094.column, (x1094.column + (((x1094.line + x1094.lines) - 2) / v_0.height))⟩ : IPlace)] : List IPlace)) () (hF.1 rfl)))) fun _ => ?_
             refine DF.und (α := Option Addr × Nat) (none, 0) (fun q => .slice q.1 1 q.2) (fun (q : Option Addr × Nat) K => Sl (RHeading) 4 K q.1 q.2 ([(⟨x1157, ([] : List Bytes), ([] : List Bytes), ([(⟨v_0.number, x1094.column, (x1094.column + (((x1094.line + x1094.lines) - 2) / v_0.height))⟩ : IPlace)] : List IPlace)⟩ : Heading)] : List Heading)) (fun _ _ _ h x => x.mono (RHeading.mono) h) (by kernel_rfl) rfl (fun a w K hS hA hF => TG.pa hS hA (bS (cs := [.string (bs x1157), .slice none 0 0, .slice none 0 0, .slice ad1174 1 cap1175]) T10.E79 rfl rfl rfl rfl fun q1177 K1178 hq1179 hK1180 => by
               refine TG.pack (fun K => Sl (RHeading) 4 K (some q1177) 1 ([(⟨x1157, ([] : List Bytes), ([] : List Bytes), ([(⟨v_0.number, x1094.column, (x1094.column + (((x1094.line + x1094.lines) - 2) / v_0.height))⟩ : IPlace)] : List IPlace)⟩ : Heading)] : List Heading)) (fun H le => Sl.litR (css := [[.string (bs x1157), .slice none 0 0, .slice none 0 0, .slice ad1174 1 cap1175]]) (l := ([(⟨x1157, ([] : List Bytes), ([] : List Bytes), ([(⟨v_0.number, x1094.column, (x1094.column + (((x1094.line + x1094.lines) - 2) / v_0.height))⟩ : IPlace)] : List IPlace)⟩ : Heading)] : List Heading)) ⟨⟨rfl, rfl, ⟨_, _, _, _, _, _, rfl, (Sl.nil _ _ _ _ _ (by decide)), (Sl.nil _ _ _ _ _ (by decide)), ((hF.1 rfl).mono (Flat.mono _) (le.at 1 rfl))⟩⟩, tv⟩ hq1179 (hK1180.mono (le.at 0 rfl)) rfl) fun K1182 hl1181 => ?_
               have := hl1181.len
               refine sk1 ?_
               exact finU (f := fun q => .slice q.1 1 q.2) (G := (fun (q : Option Addr × Nat) K => Sl (RHeading) 4 K q.1 q.2 ([(⟨x1157, ([] : List Bytes), ([] : List Bytes), ([(⟨v_0.number, x1094.column, (x1094.column + (((x1094.line + x1094.lines) - 2) / v_0.height))⟩ : IPlace)] : List IPlace)⟩ : Heading)] : List Heading))) (_, _) (fun _ _ _ h x => x.mono (RHeading.mono) h) hl1181)) ?_
             rintro ⟨ad1184, cap1185⟩
             refine DF.nil fun K1186 hF => ?_
             obtain ⟨hu1183, hu1176, hu1173, _⟩ := hF
             have := hu1173.len
             have := hu1183.len
             obtain ⟨hk1187, hr1188⟩ := chk_some hr1167
             have := lenA s1021.2 ([(⟨x1157, ([] : List Bytes), ([] : List Bytes), ([(⟨v_0.number, x1094.column, (x1094.column + (((x1094.line + x1094.lines) - 2) / v_0.height))⟩ : IPlace)] : List IPlace)⟩ : Heading)] : List Heading)
             refine TG.pack (fun K => Sl (RHeading) 4 K ad1184 cap1185 ([(⟨x1157, ([] : List Bytes), ([] : List Bytes), ([(⟨v_0.number, x1094.column, (x1094.column + (((x1094.line + x1094.lines) - 2) / v_0.height))⟩ : IPlace)] : List IPlace)⟩ : Heading)] : List Heading) ∧ Rows (RHeading) 4 K css1024 s1021.2) (fun H le => ⟨hu1183.mono (RHeading.mono) (le.at 0 rfl), hR1026.mono (RHeading.mono) (le.at 2 rfl)⟩) fun K1191 ⟨hm1192, hR1193⟩ => (apR 3 (l := s1021.2) (m := ([(⟨x1157, ([] : List Bytes), ([] : List Bytes), ([(⟨v_0.number, x1094.column, (x1094.column + (((x1094.line + x1094.lines) - 2) / v_0.height))⟩ : IPlace)] : List IPlace)⟩ : Heading)] : List Heading)) T10.E79 rfl rfl rfl rfl rfl rfl hm1192 hR1193 RHeading.one rfl hk1187 fun ad1189 cap1190 css1195 hR1194 => (a1 rfl (on ?_)))
             cases hr1188
             intro a w hS hA
             exact ⟨ad1189, cap1190, css1195, K1191, hS.selH [0, 2, 3, 4, 5, 6, 7, 8, 9] rfl, hA.cut ⟨rfl, rfl, rfl, rfl, rfl, rfl, rfl, rfl, tv⟩, hR1194⟩
            ·have hr1196 := if_n hc1155 hx1148
             refine sk ?_
             cases hr1196
             intro a w hS hA
             exact ⟨ad1022, cap1023, css1024, K1025, hS.selH [1, 0, 1, 2, 3, 4, 5, 6, 7] rfl, hA.cut ⟨rfl, rfl, rfl, rfl, rfl, rfl, rfl, rfl, tv⟩, hR1026⟩
           ·rintro a w ⟨ad1150, cap1151, css1152, K1153, hS, hA, hR1154⟩
            refine TG.ap ?_ hS hA
            refine rg (m1 rfl (adI rfl rfl rfl (by omega) (a1 rfl (on ?_))))
            cases hr1149
            intro a w hS hA
            exact ⟨_, hz1028, ad1150, cap1151, css1152, K1153, hS.selH [0, 3, 4, 5, 6, 7, 8] rfl, hA.cut ⟨rfl, rfl, rfl, rfl, rfl, rfl, rfl, rfl, tv⟩, hR1154⟩
          ·have hr1197 := if_n hc1033 hr1027
           refine xt rfl ?_
           cases hr1197
           obtain rfl := Fin.out hz1028
           intro a w hS hA
           exact ⟨ad1022, cap1023, css1024, K1025, hS, hA.cut ⟨rfl, rfl, rfl, rfl, rfl, rfl, rfl, tv⟩, hR1026⟩
        ·rintro a w ⟨ad1016, cap1017, css1018, K1019, hS, hA, hR1020⟩
         refine TG.ap ?_ hS hA
         refine rg (m1 rfl (adI rfl rfl rfl (by omega) (a1 rfl (on ?_))))
         cases hr1015
         intro a w hS hA
         exact ⟨_, hz728, ad1016, cap1017, css1018, K1019, hS.selH [0, 2, 3, 4, 5, 6] rfl, hA.cut ⟨rfl, rfl, rfl, rfl, rfl, rfl, rfl, tv⟩, hR1020⟩
       ·have hr1198 := if_n hc733 hr727
        refine xt rfl ?_
        cases hr1198
        obtain rfl := Fin.out hz728
        intro a w hS hA
        exact ⟨ad722, cap723, css724, K725, hS, hA.cut ⟨rfl, rfl, rfl, rfl, rfl, rfl, tv⟩, hR726⟩
     ·rintro a w ⟨ad716, cap717, css718, K719, hS, hA, hR720⟩
      refine TG.ap ?_ hS hA
      refine sq (sq ?_)
      obtain ⟨t1202, hx1203, hr1204⟩ := bd_some hr715
      refine jn (fun a w => St M W H [K719, K72, K65, K55, K5, H] [(3, Own.rows ad716 cap717 86 4 css718 e713), (1, Own.list (some ⟨b84, 0, none⟩) 1000 9 1 encS e113)] w ∧ Has [] 198 a [(1, .slice ad_errata errata.length cap_errata), (2, .int .u8 column), (3, .pointer (some q4)), (9, .slice (some ⟨b84, 0, none⟩) ((List.replicate 1000 ([] : Bytes)).length) 1000), (11, .slice ad716 e713.length cap717), (115, .bool t1202)]) ?_ ?_
      ·refine rg (m1 rfl (TG.len 3 rfl fun _ => (lnL U79 rfl rfl (m1 rfl (lnL U74 rfl rfl (neI rfl rfl rfl (m1 rfl ?_)))))))
       by_cases hb1205 : (e713.length : Int) ≠ (r69.1.length : Int)
       ·have hr1206 := if_p hb1205 hx1203
        refine gf' hb1205 rfl (gf' hb1205 rfl (gf' hb1205 rfl (pt hb1205 rfl rfl (on ?_))))
        cases hr1206
        exact cu ⟨rfl, rfl, rfl, rfl, rfl, rfl, tv⟩
       ·have hr1207 := if_n hb1205 hx1203
        refine gt' hb1205 rfl (m1 rfl (gt' hb1205 rfl (lnL U79 rfl rfl (gt' hb1205 rfl (gtI rfl rfl rfl (pf hb1205 rfl rfl (on ?_)))))))
        cases hr1207
        exact cu ⟨rfl, rfl, rfl, rfl, rfl, rfl, tv⟩
      ·rintro a w ⟨hS, hA⟩
       refine TG.ap ?_ hS hA
       refine cb rfl (fun hc1211 => ?_) (fun hc1211 => ?_)
       ·have hr1212 := if_p hc1211 hr1204
        refine sq (rg (a1 rfl (on (rt_ ?_))))
        cases hr1212
        intro a w hS hA
        refine ret1 hA rfl rfl ?_
        exact ⟨rfl, hS.ext⟩
       ·have hr1213 := if_f hc1211 hr1204
        refine sk (sq (rg (m1 rfl ?_)))
        obtain ⟨hk1214, hr1215⟩ := chk_some hr1213
        refine cvI U5 U3 rfl rfl (wr_i64 hk1214) ?_
        obtain ⟨hk1216, hr1217⟩ := chk_some hr1215
        refine rmI rfl rfl rfl hk1216 (adI rfl rfl rfl (by omega) (a1 rfl (on (sq (rg (m1 rfl (fb 0 U24 rfl rfl rfl rfl Z3 (ld G3 rfl rfl ((sS 4 rfl hK6).take 1) rfl (m1 rfl (TG.stillR 3 rfl 0 rfl (RHeading.mono) hR720 fun K1218 hl1219 => ?_))))))))))
        have := hl1219.len
        obtain ⟨r1220, hx1221, hr1222⟩ := bd_some hr1217
        refine clK C24 rfl rfl rfl rfl (fun w H hH le => w24 hH (hg.mono (le.at 6 rfl)) (hl1219.mono (RHeading.mono) (le.at 0 rfl)) v_0.number (1 + (column % 60)) hx1221) ?_
        rintro v_ K1223 ⟨ad1224, cap1225, rfl, hl1226⟩
        have := hl1226.len
        refine m1 rfl (ex rfl rfl rfl (ex rfl rfl rfl (a1 rfl (a1 rfl (on (sq (sq (rg (m1 rfl (neI rfl rfl rfl (on ?_)))))))))))
        refine ci rfl (fun hc1230 => ?_) (fun hc1230 => ?_)
        ·have hr1231 := if_p hc1230 hr1222
         refine sq (rg (a1 rfl (on (rt_ ?_))))
         cases hr1231
         intro a w hS hA
         refine ret1 hA rfl rfl ?_
         exact ⟨rfl, hS.ext⟩
        ·have hr1232 := if_n hc1230 hr1222
         refine sk (sq (rg ?_))
         have : (List.replicate 1000 false).length = 1000 := List.length_replicate
         refine mkL 4 encB false T10.E89 rfl rfl rfl rfl rfl rfl rfl hk82 fun b1233 => (a1 rfl (on (sq (rg (a1 rfl (on (sq (sq (rg (a1 rfl (on ?_)))))))))))
         obtain ⟨e1406, hl1407, hr1408⟩ := bd_some hr1232
         refine jn (fun a w => ∃ t1409, e1406 = .inl t1409 ∧ St M W H [K1223, K1218, K719, K72, K65, K55, K5, H] [(4, Own.list (some ⟨b1233, 0, none⟩) 1000 4 1 encB t1409.2), (1, Own.list (some ⟨b84, 0, none⟩) 1000 9 1 encS e113)] w ∧ Has [] 198 a [(16, .slice ad1224 r1220.1.length cap1225), (19, .int .i64 (t1409.1 : Int))] ∧ t1409.2.length = (List.replicate 1000 false).length) ?_ ?_
         ·refine bk ?_
          refine lp hl1407 (fun s1411 a w => St M W H [K1223, K1218, K719, K72, K65, K55, K5, H] [(4, Own.list (some ⟨b1233, 0, none⟩) 1000 4 1 encB s1411.2.2), (1, Own.list (some ⟨b84, 0, none⟩) 1000 9 1 encS e113)] w ∧ Has [] 198 a [(1, .slice ad_errata errata.length cap_errata), (3, .pointer (some q4)), (9, .slice (some ⟨b84, 0, none⟩) ((List.replicate 1000 ([] : Bytes)).length) 1000), (15, .int .i64 (1 + (column % 60))), (16, .slice ad1224 r1220.1.length cap1225), (18, .slice (some ⟨b1233, 0, none⟩) ((List.replicate 1000 false).length) 1000), (19, .int .i64 (s1411.1 : Int)), (20, .int .i64 (s1411.2.1 : Int))] ∧ s1411.2.2.length = (List.replicate 1000 false).length) ?_ ?_
          ·intro a w hS hA
           exact ⟨hS, hA.cut ⟨rfl, rfl, rfl, rfl, rfl, rfl, rfl, rfl, tv⟩, rfl⟩
          ·rintro j s1411 y1415 hr1413 hz1414 a w ⟨hS, hA, hln1412⟩
           refine TG.ap ?_ hS hA
           unfold m4_4 at hr1413
           refine sq (sq (rg (m1 rfl (fb 2 U24 rfl rfl rfl rfl Z3 (ld G3 rfl rfl (((sS 6 rfl hK6).drop 2).take 1) rfl (leI rfl rfl rfl (on ?_)))))))
           refine ci rfl (fun hc1419 => ?_) (fun hc1419 => ?_)
           ·have hr1420 := if_p hc1419 hr1413
            refine sk (sq ?_)
            obtain ⟨t1498, hx1499, hr1500⟩ := bd_some hr1420
            refine jn (fun a w => ∃ t1501, t1498 = .inl t1501 ∧ St M W H [K1223, K1218, K719, K72, K65, K55, K5, H] [(4, Own.list (some ⟨b1233, 0, none⟩) 1000 4 1 encB t1501.2), (1, Own.list (some ⟨b84, 0, none⟩) 1000 9 1 encS e113)] w ∧ Has [] 198 a [(1, .slice ad_errata errata.length cap_errata), (3, .pointer (some q4)), (9, .slice (some ⟨b84, 0, none⟩) ((List.replicate 1000 ([] : Bytes)).length) 1000), (15, .int .i64 (1 + (column % 60))), (16, .slice ad1224 r1220.1.length cap1225), (18, .slice (some ⟨b1233, 0, none⟩) ((List.replicate 1000 false).length) 1000), (19, .int .i64 (t1501.1 : Int)), (20, .int .i64 (s1411.2.1 : Int))] ∧ t1501.2.length = (List.replicate 1000 false).length) ?_ ?_
            ·refine bk (sq ?_)
             obtain ⟨r1515, hx1516, hr1517⟩ := bd_some hx1499
             obtain ⟨hk1518, hr1519⟩ := chk_some hr1517
             obtain ⟨hk1520, hr1521⟩ := chk_some hr1519
             obtain ⟨r1522, hx1523, hr1524⟩ := bd_some hr1521
             obtain ⟨hk1525, hr1526⟩ := chk_some hr1524
             obtain ⟨hk1527, hr1528⟩ := chk_some hr1526
             obtain ⟨r1529, hx1530, hr1531⟩ := bd_some hr1528
             obtain ⟨hk1532, hr1533⟩ := chk_some hr1531
             obtain ⟨r1534, hx1535, hr1536⟩ := bd_some hr1533
             refine drG 23 mixed (by kernel_rfl) rfl (dt rfl (ldA G24 Z24 rfl rfl (sS 7 rfl hK6) rfl fin1) ?_)
             refine DF.und (α := List Value) [] (fun q => .agg q.toArray) (fun (q : List Value) K => (RVolume) K q r52) (fun _ _ _ h x => RVolume.mono _ _ _ _ h x) (by kernel_rfl) rfl (fun a w K hS hA hF => TG.pa hS hA (clK C11 rfl rfl rfl rfl (fun w H hH le => w11 hH v_0 (RVolume.mono _ _ _ _ (le.at 8 rfl) hh_v_0) hx53) (by
               rintro v_ K1503 ⟨cs1504, rfl, hr1505⟩
               exact finU (f := fun q => .agg q.toArray) (G := (fun (q : List Value) K => (RVolume) K q r52)) _ (fun _ _ _ h x => RVolume.mono _ _ _ _ h x) hr1505))) fun cs1507 => ?_
             refine dt rfl (m1 rfl fin1) ?_
             refine DF.und (α := Option Addr × Nat) (none, 0) (fun q => .slice q.1 r62.length q.2) (fun (q : Option Addr × Nat) K => Sl (Flat encErratum) 6 K q.1 q.2 r62) (fun _ _ _ h x => x.mono (Flat.mono _) h) (by kernel_rfl) rfl (fun a w K hS hA hF => TG.pa hS hA (clK C12 rfl rfl rfl rfl (fun w H hH le => w12 hH (h_errata.mono (Flat.mono _) (le.at 8 rfl)) hx63) (by
               rintro v_ K1508 ⟨ad1509, cap1510, rfl, hl1511⟩
               exact finU (f := fun q => .slice q.1 r62.length q.2) (G := (fun (q : Option Addr × Nat) K => Sl (Flat encErratum) 6 K q.1 q.2 r62)) (_, _) (fun _ _ _ h x => x.mono (Flat.mono _) h) hl1511))) ?_
             rintro ⟨ad1513, cap1514⟩
             refine dt rfl (fb 0 U24 rfl rfl rfl rfl Z3 fin1) (dt rfl (ld G3 rfl rfl ((sS 7 rfl hK6).take 1) rfl fin1) (dt rfl (clS C23 rfl rfl rfl rfl (fun w H hH le => w23 v_0.number hx1516) fin1) (dt rfl (cat rfl rfl rfl hk1518 fin1) (dt rfl (cat rfl rfl rfl hk1520 fin1) (dt rfl (m1 rfl fin1) (dt rfl (clS C23 rfl rfl rfl rfl (fun w H hH le => w23 (1 + (column % 60)) hx1523) fin1) (dt rfl (cat rfl rfl rfl hk1525 fin1) (dt rfl (cat rfl rfl rfl hk1527 fin1) (dt rfl (m1 rfl fin1) (dt rfl (clS C23 rfl rfl rfl rfl (fun w H hH le => w23 (s1411.2.1 : Int) hx1530) fin1) (dt rfl (cat rfl rfl rfl hk1532 fin1) ?_)))))))))))
             refine DF.det rfl (fun a w K hS hA hF => TG.pa hS hA (clS C19 rfl rfl rfl rfl (fun w H hH le => w19 hH (hg.mono (le.at 8 rfl)) r52 (RVolume.mono _ _ _ _ (le.at 0 rfl) (hF.2.1 rfl)) ((hF.1 rfl).mono (Flat.mono _) (le.at 0 rfl)) ((((([118, 111, 108, 46, 32] ++ r1515) ++ [44, 32, 99, 111, 108, 46, 32]) ++ r1522) ++ [44, 32, 108, 46, 32]) ++ r1529) hx1535) fin1)) (dt rfl (m1 rfl fin1) (dt rfl (ex rfl rfl rfl fin1) (dt rfl (ex rfl rfl rfl fin1) (dt rfl (ex rfl rfl rfl fin1) (dt rfl (a1 rfl fin1) (dt rfl (a1 rfl fin1) (DF.nil fun K1537 hF => ?_)))))))
             obtain ⟨hu1512, hu1506, _⟩ := hF
             have hr1538 := hu1506
             obtain ⟨ad1539, cap1540, rfl, hl1541⟩ := hu1506
             have := hl1541.len
             have := hu1512.len
             refine a1 rfl (on (sq (sq (rg (m1 rfl (neI rfl rfl rfl (on ?_)))))))
             refine ci rfl (fun hc1548 => ?_) (fun hc1548 => ?_)
             ·have hr1549 := if_p hc1548 hr1536
              refine sq (sq (rg (m1 rfl (neI rfl rfl rfl (on ?_)))))
              refine ci rfl (fun hc1553 => ?_) (fun hc1553 => ?_)
              ·have hr1554 := if_p hc1553 hr1549
               refine sq (rg (a1 rfl (on (rt_ ?_))))
               cases hr1554
               cases hr1500
               obtain rfl := Fin.out hz1414
               cases hr1408
               intro a w hS hA
               refine ret1 hA rfl rfl ?_
               exact ⟨rfl, hS.ext⟩
              ·have hr1555 := if_n hc1553 hr1549
               refine sk (xt rfl ?_)
               cases hr1555
               intro a w hS hA
               exact ⟨_, rfl, hS.selH [1, 2, 3, 4, 5, 6, 7, 8] rfl, hA.cut ⟨rfl, rfl, rfl, rfl, rfl, rfl, rfl, rfl, tv⟩, hln1412⟩
             ·have hr1556 := if_n hc1548 hr1536
              refine sk (sq (sq ?_))
              obtain ⟨t1563, hx1564, hr1565⟩ := bd_some hr1556
              refine jn (fun a w => St M W H [K1537, K1223, K1218, K719, K72, K65, K55, K5, H] [(4, Own.list (some ⟨b1233, 0, none⟩) 1000 4 1 encB s1411.2.2), (1, Own.list (some ⟨b84, 0, none⟩) 1000 9 1 encS e113)] w ∧ Has [] 198 a [(1, .slice ad_errata errata.length cap_errata), (3, .pointer (some q4)), (9, .slice (some ⟨b84, 0, none⟩) ((List.replicate 1000 ([] : Bytes)).length) 1000), (15, .int .i64 (1 + (column % 60))), (16, .slice ad1224 r1220.1.length cap1225), (18, .slice (some ⟨b1233, 0, none⟩) ((List.replicate 1000 false).length) 1000), (19, .int .i64 (s1411.1 : Int)), (20, .int .i64 (s1411.2.1 : Int)), (21, .int .i64 r1534.1), (173, .bool t1563)]) ?_ ?_
              ·refine rg (m1 rfl (fb 1 U24 rfl rfl rfl rfl Z3 (ld G3 rfl rfl (((sS 7 rfl hK6).drop 1).take 1) rfl (neI rfl rfl rfl (m1 rfl ?_)))))
               by_cases hb1566 : r1534.2.1 ≠ v_0.bound
               ·have hr1567 := if_p hb1566 hx1564
                refine gf' hb1566 rfl (gf' hb1566 rfl (pt hb1566 rfl rfl (m1 rfl (gF rfl rfl rfl rfl (gF rfl rfl rfl rfl (pT rfl rfl rfl rfl (on ?_)))))))
                cases hr1567
                exact cu ⟨rfl, rfl, rfl, rfl, rfl, rfl, rfl, rfl, rfl, rfl, tv⟩
               ·have hr1568 := if_n hb1566 hx1564
                refine gt' hb1566 rfl (m1 rfl (gt' hb1566 rfl (ltI rfl rfl rfl (pf hb1566 rfl rfl (m1 rfl ?_)))))
                by_cases hb1569 : r1534.1 < 1
                ·have hr1570 := if_p hb1569 hr1568
                 refine gf' hb1569 rfl (gf' hb1569 rfl (pt hb1569 rfl rfl (on ?_)))
                 cases hr1570
                 exact cu ⟨rfl, rfl, rfl, rfl, rfl, rfl, rfl, rfl, rfl, rfl, tv⟩
                ·have hr1571 := if_n hb1569 hr1568
                 refine gt' hb1569 rfl (m1 rfl (gt' hb1569 rfl (gtI rfl rfl rfl (pf hb1569 rfl rfl (on ?_)))))
                 cases hr1571
                 exact cu ⟨rfl, rfl, rfl, rfl, rfl, rfl, rfl, rfl, rfl, rfl, tv⟩
              ·rintro a w ⟨hS, hA⟩
               refine TG.ap ?_ hS hA
               refine cb rfl (fun hc1575 => ?_) (fun hc1575 => ?_)
               ·have hr1576 := if_p hc1575 hr1565
                refine sq (rg (a1 rfl (on (rt_ ?_))))
                cases hr1576
                cases hr1500
                obtain rfl := Fin.out hz1414
                cases hr1408
                intro a w hS hA
                refine ret1 hA rfl rfl ?_
                exact ⟨rfl, hS.ext⟩
               ·have hr1577 := if_f hc1575 hr1565
                refine sk (sq (sq (rg (m1 rfl (m1 rfl ?_)))))
                obtain ⟨hk1578, hr1579⟩ := chk_some hr1577
                obtain ⟨x1580, hx1581, hr1582⟩ := bd_some hr1579
                refine iaP U89 Z4 rfl rfl rfl (by omega) (Nat.lt_of_lt_of_eq (lt_of hx1581) hln1412) (ld G4 rfl rfl (sE 4 rfl (fun _ => rfl) hx1581) rfl (nt rfl rfl (on ?_)))
                obtain ⟨t1589, hx1590, hr1591⟩ := bd_some hr1582
                refine jn (fun a w => St M W H [K1537, K1223, K1218, K719, K72, K65, K55, K5, H] [(4, Own.list (some ⟨b1233, 0, none⟩) 1000 4 1 encB t1589.2), (1, Own.list (some ⟨b84, 0, none⟩) 1000 9 1 encS e113)] w ∧ Has [] 198 a [(1, .slice ad_errata errata.length cap_errata), (3, .pointer (some q4)), (9, .slice (some ⟨b84, 0, none⟩) ((List.replicate 1000 ([] : Bytes)).length) 1000), (15, .int .i64 (1 + (column % 60))), (16, .slice ad1224 r1220.1.length cap1225), (18, .slice (some ⟨b1233, 0, none⟩) ((List.replicate 1000 false).length) 1000), (19, .int .i64 (t1589.1 : Int)), (20, .int .i64 (s1411.2.1 : Int)), (21, .int .i64 r1534.1)] ∧ t1589.2.length = (List.replicate 1000 false).length) ?_ ?_
                ·refine cb rfl (fun hc1593 => ?_) (fun hc1593 => ?_)
                 ·replace hc1593 := nbt hc1593
                  have hr1594 := if_f hc1593 hx1590
                  refine sq (rg (m1 rfl (m1 rfl (iaP U89 Z4 rfl rfl rfl (by omega) (Nat.lt_of_lt_of_eq (lt_of hx1581) hln1412) ?_))))
                  have hln1595 : (s1411.2.2.set r1534.1.toNat true).length = (List.replicate 1000 false).length := (lenS _ _ _).trans hln1412
                  refine stE 4 true (q := ⟨b1233, 0, none⟩) (j := r1534.1.toNat) (size := 1) (cs := [.bool true]) (off := 0) Z4 rfl rfl rfl (fun _ => rfl) hx1581 rfl rfl rfl rfl rfl (on (rg (m1 rfl ?_)))
                  obtain ⟨hk1596, hr1597⟩ := chk_some hr1594
                  refine adI rfl rfl rfl hk1596 (a1 rfl (on ?_))
                  cases hr1597
                  intro a w hS hA
                  exact ⟨hS, hA.cut ⟨rfl, rfl, rfl, rfl, rfl, rfl, rfl, rfl, rfl, tv⟩, hln1595⟩
                 ·replace hc1593 := nbf hc1593
                  have hr1598 := if_p hc1593 hx1590
                  refine sk ?_
                  cases hr1598
                  intro a w hS hA
                  exact ⟨hS, hA.cut ⟨rfl, rfl, rfl, rfl, rfl, rfl, rfl, rfl, rfl, tv⟩, hln1412⟩
                ·rintro a w ⟨hS, hA, hln1592⟩
                 refine TG.ap ?_ hS hA
                 refine sq (rg (m1 rfl (m1 rfl (m1 rfl ?_))))
                 obtain ⟨x1599, hx1600, hr1601⟩ := bd_some hr1591
                 refine iaP U77 Z9 rfl rfl rfl (by omega) (Nat.lt_of_lt_of_eq (lt_of hx1600) hln116) (ld G9 rfl rfl (sE 1 rfl (fun _ => rfl) hx1600) rfl ?_)
                 obtain ⟨r1602, hx1603, hr1604⟩ := bd_some hr1601
                 refine clS C25 rfl rfl rfl rfl (fun w H hH le => w25 hH (hl1226.mono (Flat.mono _) (le.at 1 rfl)) x1599 hx1603) (nt rfl rfl (on ?_))
                 refine cb rfl (fun hc1608 => ?_) (fun hc1608 => ?_)
                 ·replace hc1608 := nbt hc1608
                  have hr1609 := if_f hc1608 hr1604
                  refine sq (rg (a1 rfl (on (rt_ ?_))))
                  cases hr1609
                  cases hr1500
                  obtain rfl := Fin.out hz1414
                  cases hr1408
                  intro a w hS hA
                  refine ret1 hA rfl rfl ?_
                  exact ⟨rfl, hS.ext⟩
                 ·replace hc1608 := nbf hc1608
                  have hr1610 := if_p hc1608 hr1604
                  refine sk ?_
                  cases hr1610
                  intro a w hS hA
                  exact ⟨_, rfl, hS.selH [1, 2, 3, 4, 5, 6, 7, 8] rfl, hA.cut ⟨rfl, rfl, rfl, rfl, rfl, rfl, rfl, rfl, tv⟩, hln1592⟩
            ·rintro a w ⟨t1501, rfl, hS, hA, hln1502⟩
             refine TG.ap ?_ hS hA
             refine rg (m1 rfl ?_)
             obtain ⟨hk1611, hr1612⟩ := chk_some hr1500
             refine adI rfl rfl rfl hk1611 (a1 rfl (on ?_))
             cases hr1612
             intro a w hS hA
             exact ⟨_, hz1414, hS, hA.cut ⟨rfl, rfl, rfl, rfl, rfl, rfl, rfl, rfl, tv⟩, hln1502⟩
           ·have hr1613 := if_n hc1419 hr1413
            refine xt rfl ?_
            cases hr1613
            obtain rfl := Fin.out hz1414
            intro a w hS hA
            exact ⟨_, rfl, hS, hA.cut ⟨rfl, rfl, tv⟩, hln1412⟩
         ·rintro a w ⟨t1409, rfl, hS, hA, hln1410⟩
          refine TG.ap ?_ hS hA
          refine sq ?_
          obtain ⟨t1620, hx1621, hr1622⟩ := bd_some hr1408
          refine jn (fun a w => St M W H [K1223, K1218, K719, K72, K65, K55, K5, H] [(4, Own.list (some ⟨b1233, 0, none⟩) 1000 4 1 encB t1409.2), (1, Own.list (some ⟨b84, 0, none⟩) 1000 9 1 encS e113)] w ∧ Has [] 198 a [(6, .bool t1620)]) ?_ ?_
          ·refine rg (m1 rfl (m1 rfl (lnL U77 rfl rfl (eqI rfl rfl rfl (m1 rfl ?_)))))
           by_cases hb1623 : (t1409.1 : Int) = (r1220.1.length : Int)
           ·have hr1624 := if_p hb1623 hx1621
            refine gt hb1623 rfl ?_
            obtain ⟨r1625, hx1626, hr1627⟩ := bd_some hr1624
            refine clS C21 rfl rfl rfl rfl (fun w H hH le => w21 hH (hg.mono (le.at 7 rfl))  hx1626) (pt hb1623 rfl rfl (a1 rfl (on ?_)))
            cases hr1627
            exact cu ⟨rfl, tv⟩
           ·have hr1628 := if_n hb1623 hx1621
            refine gf hb1623 rfl (pf hb1623 rfl rfl (a1 rfl (on ?_)))
            cases hr1628
            exact cu ⟨rfl, tv⟩
          ·rintro a w ⟨hS, hA⟩
           refine TG.ap ?_ hS hA
           refine rt_ ?_
           cases hr1622
           intro a w hS hA
           refine ret1 hA rfl rfl ?_
           exact ⟨rfl, hS.ext⟩

end T10
