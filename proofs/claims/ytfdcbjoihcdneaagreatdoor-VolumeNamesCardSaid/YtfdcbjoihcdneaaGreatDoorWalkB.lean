/-
 Walks of functions of layer 10: each call comes to what the model says. Printed by a program of ours.
-/
import Derived.Test.YtfdcbjoihcdneaaGreatDoorWalkA
set_option linter.all false
set_option maxHeartbeats 4000000
namespace T10
open Go Go.Proofs Pk
theorem w61 {M : Prop} {W : World} {H : Hp} (hH : H.le (hp W)) (hg : Gv M H) (cite : Bytes) {r : cited ⊕ Unit} (hr : m61 cite = some r) : Calls Tryz.prog 61 [.string (bs cite)].toArray W (RetT M W (fun r => .agg (enccited r).toArray) (.iface 153 (.agg [.string (bs cite)].toArray)) r) := by
 unfold m61 at hr
 refine enterG (M := M) Tryz.func61 rfl Tryz.ntmps61 rfl hH ?_
 refine sq (rg (bI (cs := [.string (bs cite)]) rfl rfl rfl fun q1 K2 hK3 => (al 1 (cs := [.int .u8 0, .int .i64 0, .int .i64 0, .int .i64 0]) Tryz.zeroValue106 rfl rfl fun b4 => (on (sq (rg (ld G9 rfl rfl (sS 0 rfl hK3) rfl (al 2 (cs := [.string (bs [])]) Tryz.zeroValue9 rfl rfl fun b5 => (sto 2 (cs := [.string (bs cite)]) Z9 rfl rfl rfl rfl rfl rfl rfl (on (sq ?_)))))))))))
 refine rg (fn rfl rfl rfl (a1 rfl (on (sq (rg (ld G9 rfl rfl (sS 0 rfl hK3) rfl ?_))))))
 obtain ⟨r6, hx7, hr8⟩ := bd_some hr
 refine clS C88 rfl rfl rfl rfl (fun w H hH le => w88 hH (hg.mono (le.at 1 rfl)) cite [118, 111, 108, 46, 32] hx7) (m1 rfl (ex rfl rfl rfl (ex rfl rfl rfl (a1 rfl (a1 rfl (on (sq (bk (sq (rg (m1 rfl ?_)))))))))))
 refine nt rfl rfl (a1 rfl (on ?_))
 obtain ⟨t506, hx507, hr508⟩ := bd_some hr8
 refine jn (fun a w => ∃ t509, t506 = .inl t509 ∧ St M W H [K2, H] [(2, cel b5 9 [.string (bs t509.2.2.2.2)]), (1, cel b4 106 [.int .u8 t509.1, .int .i64 t509.2.1, .int .i64 t509.2.2.1, .int .i64 t509.2.2.2.1])] w ∧ Has [] 58 a [(1, .pointer (some q1)), (2, .pointer (some (⟨b4, 0, none⟩)))]) ?_ ?_
 ·refine cb rfl (fun hc510 => ?_) (fun hc510 => ?_)
  ·replace hc510 := nbt hc510
   have hr511 := if_f hc510 hx507
   refine rg (m1 rfl ?_)
   obtain ⟨t540, hx541, hr542⟩ := bd_some hr511
   refine clIT C85 Tryz.func85 rfl Tryz.ntmps85 rfl rfl rfl rfl (fun v w => (∃ (t543 : Int × Bytes), t540 = (.inl t543) ∧ v = .int .i64 t543.1 ∧ St M W H [K2, H] [(2, cel b5 9 [.string (bs t543.2)]), (1, cel b4 106 [.int .u8 0, .int .i64 0, .int .i64 0, .int .i64 0])] w)) _ (fun _ _ _ hA h => ⟨hA.defers, h⟩) ?_ ?_
   ·refine sq (rg (a1 rfl (on (sq (rg (ld G9 rfl rfl (sO 2 rfl) rfl (a1 rfl (on (sq (sq (rg ?_)))))))))))
    refine m1 rfl (neS rfl rfl rfl (on (cT rfl ((by decide : decide (([64] : Bytes) ≠ []) = true)) (sq (rg (ld G9 rfl rfl (sO 2 rfl) rfl (m1 rfl ?_)))))))
    obtain ⟨r544, hx545, hr546⟩ := bd_some hx541
    refine clS C86 rfl rfl rfl rfl (fun w H hH le => w86 hH (hg.mono (le.at 1 rfl)) cite [64] hx545) (m1 rfl (ex rfl rfl rfl (ex rfl rfl rfl (ex rfl rfl rfl (a1 rfl (a1 rfl (a1 rfl (on (sq (sq (rg ?_)))))))))))
    refine m1 rfl (nt rfl rfl (on ?_))
    refine cb rfl (fun hc550 => ?_) (fun hc550 => ?_)
    ·replace hc550 := nbt hc550
     have hr551 := if_f hc550 hr546
     refine rg (ld G9 rfl rfl (sS 0 rfl hK3) rfl (bu (cs := [.string (bs cite)]) T10.B153 rfl rfl rfl (fi U153 rfl rfl rfl (pnc rfl ?_))))
     cases hr551
     cases hr542
     cases hr508
     intro a w hS hA
     exact ⟨hA.defers, rtT_pan hS.ext⟩
    ·replace hc550 := nbf hc550
     have hr552 := if_p hc550 hr546
     refine sk (rg (m1 rfl (m1 rfl (a1 rfl (sto 2 (cs := [.string (bs r544.2.1)]) Z9 rfl rfl rfl rfl rfl rfl rfl (on (sq (rg (m1 rfl ?_)))))))))
     obtain ⟨r553, hx554, hr555⟩ := bd_some hr552
     refine clK C87 rfl rfl rfl rfl (fun w H hH le => w87 hH (hg.mono (le.at 1 rfl)) r544.1 hx554) ?_
     rintro v_ K556 ⟨er557, rfl, he558⟩
     refine m1 rfl (ex rfl rfl rfl (ex rfl rfl rfl (a1 rfl (a1 rfl (on (sq (sq ?_)))))))
     obtain ⟨t571, hx572, hr573⟩ := bd_some hr555
     refine jn (fun a w => St M W H [K556, K2, H] [(2, cel b5 9 [.string (bs r544.2.1)]), (1, cel b4 106 [.int .u8 0, .int .i64 0, .int .i64 0, .int .i64 0])] w ∧ Has [] 50 a [(2, .pointer (some q1)), (9, .int .i64 r553.1), (45, .bool t571)]) ?_ ?_
     ·refine rg (m1 rfl (neE U146 rfl rfl he558 (m1 rfl ?_)))
      rcases Bool.eq_false_or_eq_true (r553.2) with hb574 | hb574
      ·have hr575 := if_p hb574 hx572
       refine gF rfl rfl (hb574) rfl (gF rfl rfl (hb574) rfl (gF rfl rfl (hb574) rfl (gF rfl rfl (hb574) rfl (pT rfl rfl (hb574) rfl (m1 rfl (gF rfl rfl rfl rfl (gF rfl rfl rfl rfl (gF rfl rfl rfl rfl (pT rfl rfl rfl rfl (on ?_))))))))))
       cases hr575
       exact cu ⟨rfl, rfl, rfl, tv⟩
      ·have hr576 := if_f hb574 hx572
       refine gN rfl rfl (hb574) (m1 rfl (gN rfl rfl (hb574) ?_))
       obtain ⟨r577, hx578, hr579⟩ := bd_some hr576
       refine clS C58 rfl rfl rfl rfl (fun w H hH le => w58 hH (hg.mono (le.at 2 rfl)) r553.1 hx578) (gN rfl rfl (hb574) (m1 rfl (gN rfl rfl (hb574) (neS rfl rfl rfl (pF rfl rfl (hb574) rfl (m1 rfl ?_))))))
       by_cases hb580 : r577 ≠ r544.1
       ·have hr581 := if_p hb580 hr579
        refine gf' hb580 rfl (gf' hb580 rfl (gf' hb580 rfl (pt hb580 rfl rfl (on ?_))))
        cases hr581
        exact cu ⟨rfl, rfl, rfl, tv⟩
       ·have hr582 := if_n hb580 hr579
        refine gt' hb580 rfl (m1 rfl (gt' hb580 rfl ?_))
        obtain ⟨r583, hx584, hr585⟩ := bd_some hr582
        refine clS C40 rfl rfl rfl rfl (fun w H hH le => w40 r553.1 0 999999 hx584) (gt' hb580 rfl (nt rfl rfl (pf hb580 rfl rfl (on ?_))))
        cases hr585
        exact cu ⟨rfl, rfl, rfl, tv⟩
     ·rintro a w ⟨hS, hA⟩
      refine TG.ap ?_ hS hA
      refine cb rfl (fun hc589 => ?_) (fun hc589 => ?_)
      ·have hr590 := if_p hc589 hr573
       refine rg (ld G9 rfl rfl (sS 1 rfl hK3) rfl (bu (cs := [.string (bs cite)]) T10.B153 rfl rfl rfl (fi U153 rfl rfl rfl (pnc rfl ?_))))
       cases hr590
       cases hr542
       cases hr508
       intro a w hS hA
       exact ⟨hA.defers, rtT_pan hS.ext⟩
      ·have hr591 := if_f hc589 hr573
       refine sk (sq (rg (m1 rfl (a1 rfl (on (rt_ ?_))))))
       cases hr591
       intro a w hS hA
       refine ret1 hA rfl rfl ?_
       exact ⟨_, rfl, ⟨_, rfl, rfl, hS.selH [1, 2] rfl⟩⟩
   ·rintro a w v hA (⟨t543, rfl, rfl, hS⟩)
    refine putK rfl hA hS (m1 rfl ?_)
    obtain ⟨t614, hx615, hr616⟩ := bd_some hr542
    refine clIT C85 Tryz.func85 rfl Tryz.ntmps85 rfl rfl rfl rfl (fun v w => (∃ (t617 : Int), t614 = (.inl t617) ∧ v = .int .i64 t617 ∧ St M W H [K2, H] [(2, cel b5 9 [.string (bs t543.2)]), (1, cel b4 106 [.int .u8 0, .int .i64 0, .int .i64 0, .int .i64 0])] w)) _ (fun _ _ _ hA h => ⟨hA.defers, h⟩) ?_ ?_
    ·refine sq (rg (a1 rfl (on (sq (rg (ld G9 rfl rfl (sO 2 rfl) rfl (a1 rfl (on (sq (sq (rg ?_)))))))))))
     refine m1 rfl (neS rfl rfl rfl (on (cF rfl ((by decide : decide (([] : Bytes) ≠ []) = false)) (sk (sq (rg (m1 rfl ?_)))))))
     obtain ⟨r618, hx619, hr620⟩ := bd_some hx615
     refine clK C87 rfl rfl rfl rfl (fun w H hH le => w87 hH (hg.mono (le.at 1 rfl)) t543.2 hx619) ?_
     rintro v_ K621 ⟨er622, rfl, he623⟩
     refine m1 rfl (ex rfl rfl rfl (ex rfl rfl rfl (a1 rfl (a1 rfl (on (sq (sq ?_)))))))
     obtain ⟨t636, hx637, hr638⟩ := bd_some hr620
     refine jn (fun a w => St M W H [K621, K2, H] [(2, cel b5 9 [.string (bs t543.2)]), (1, cel b4 106 [.int .u8 0, .int .i64 0, .int .i64 0, .int .i64 0])] w ∧ Has [] 50 a [(2, .pointer (some q1)), (9, .int .i64 r618.1), (45, .bool t636)]) ?_ ?_
     ·refine rg (m1 rfl (neE U146 rfl rfl he623 (m1 rfl ?_)))
      rcases Bool.eq_false_or_eq_true (r618.2) with hb639 | hb639
      ·have hr640 := if_p hb639 hx637
       refine gF rfl rfl (hb639) rfl (gF rfl rfl (hb639) rfl (gF rfl rfl (hb639) rfl (gF rfl rfl (hb639) rfl (pT rfl rfl (hb639) rfl (m1 rfl (gF rfl rfl rfl rfl (gF rfl rfl rfl rfl (gF rfl rfl rfl rfl (pT rfl rfl rfl rfl (on ?_))))))))))
       cases hr640
       exact cu ⟨rfl, rfl, rfl, tv⟩
      ·have hr641 := if_f hb639 hx637
       refine gN rfl rfl (hb639) (m1 rfl (gN rfl rfl (hb639) ?_))
       obtain ⟨r642, hx643, hr644⟩ := bd_some hr641
       refine clS C58 rfl rfl rfl rfl (fun w H hH le => w58 hH (hg.mono (le.at 2 rfl)) r618.1 hx643) (gN rfl rfl (hb639) (m1 rfl (gN rfl rfl (hb639) (neS rfl rfl rfl (pF rfl rfl (hb639) rfl (m1 rfl ?_))))))
       by_cases hb645 : r642 ≠ t543.2
       ·have hr646 := if_p hb645 hr644
        refine gf' hb645 rfl (gf' hb645 rfl (gf' hb645 rfl (pt hb645 rfl rfl (on ?_))))
        cases hr646
        exact cu ⟨rfl, rfl, rfl, tv⟩
       ·have hr647 := if_n hb645 hr644
        refine gt' hb645 rfl (m1 rfl (gt' hb645 rfl ?_))
        obtain ⟨r648, hx649, hr650⟩ := bd_some hr647
        refine clS C40 rfl rfl rfl rfl (fun w H hH le => w40 r618.1 0 999999 hx649) (gt' hb645 rfl (nt rfl rfl (pf hb645 rfl rfl (on ?_))))
        cases hr650
        exact cu ⟨rfl, rfl, rfl, tv⟩
     ·rintro a w ⟨hS, hA⟩
      refine TG.ap ?_ hS hA
      refine cb rfl (fun hc654 => ?_) (fun hc654 => ?_)
      ·have hr655 := if_p hc654 hr638
       refine rg (ld G9 rfl rfl (sS 1 rfl hK3) rfl (bu (cs := [.string (bs cite)]) T10.B153 rfl rfl rfl (fi U153 rfl rfl rfl (pnc rfl ?_))))
       cases hr655
       cases hr616
       cases hr508
       intro a w hS hA
       exact ⟨hA.defers, rtT_pan hS.ext⟩
      ·have hr656 := if_f hc654 hr638
       refine sk (sq (rg (m1 rfl (a1 rfl (on (rt_ ?_))))))
       cases hr656
       intro a w hS hA
       refine ret1 hA rfl rfl ?_
       exact ⟨_, rfl, ⟨_, rfl, rfl, hS.selH [1, 2] rfl⟩⟩
    ·rintro a w v hA (⟨t617, rfl, rfl, hS⟩)
     refine putK rfl hA hS (buA (cs := [.int .i64 t543.1, .int .i64 t617, .int .i64 0]) T10.B69 rfl rfl rfl (bu (cs := [.int .u8 2, .int .i64 t543.1, .int .i64 t617, .int .i64 0]) T10.B106 rfl rfl rfl (sto 1 (cs := [.int .u8 2, .int .i64 t543.1, .int .i64 t617, .int .i64 0]) Z106 rfl rfl rfl rfl rfl rfl rfl (on ?_))))
     cases hr616
     intro a w hS hA
     exact ⟨_, rfl, hS, hA.cut ⟨rfl, rfl, tv⟩⟩
  ·replace hc510 := nbf hc510
   have hr657 := if_p hc510 hx507
   refine sq (rg (ld G9 rfl rfl (sS 0 rfl hK3) rfl ?_))
   obtain ⟨r658, hx659, hr660⟩ := bd_some hr657
   refine clS C89 rfl rfl rfl rfl (fun w H hH le => w89 hH (hg.mono (le.at 1 rfl)) cite [99, 111, 108, 46, 32] hx659) (a1 rfl (on ?_))
   obtain ⟨t844, hx845, hr846⟩ := bd_some hr660
   refine jn (fun a w => ∃ t847, t844 = .inl t847 ∧ St M W H [K2, H] [(2, cel b5 9 [.string (bs t847.2.2.2.2)]), (1, cel b4 106 [.int .u8 t847.1, .int .i64 t847.2.1, .int .i64 t847.2.2.1, .int .i64 t847.2.2.2.1])] w ∧ Has [] 58 a [(1, .pointer (some q1)), (2, .pointer (some (⟨b4, 0, none⟩)))]) ?_ ?_
   ·refine cb rfl (fun hc848 => ?_) (fun hc848 => ?_)
    ·have hr849 := if_p hc848 hx845
     refine sq (rg (m1 rfl (sto 2 (cs := [.string (bs r6.1)]) Z9 rfl rfl rfl rfl rfl rfl rfl (on (rg (m1 rfl ?_))))))
     obtain ⟨t878, hx879, hr880⟩ := bd_some hr849
     refine clIT C85 Tryz.func85 rfl Tryz.ntmps85 rfl rfl rfl rfl (fun v w => (∃ (t881 : Int × Bytes), t878 = (.inl t881) ∧ v = .int .i64 t881.1 ∧ St M W H [K2, H] [(2, cel b5 9 [.string (bs t881.2)]), (1, cel b4 106 [.int .u8 0, .int .i64 0, .int .i64 0, .int .i64 0])] w)) _ (fun _ _ _ hA h => ⟨hA.defers, h⟩) ?_ ?_
     ·refine sq (rg (a1 rfl (on (sq (rg (ld G9 rfl rfl (sO 2 rfl) rfl (a1 rfl (on (sq (sq (rg ?_)))))))))))
      refine m1 rfl (neS rfl rfl rfl (on (cT rfl ((by decide : decide (([44, 32, 99, 111, 108, 46, 32] : Bytes) ≠ []) = true)) (sq (rg (ld G9 rfl rfl (sO 2 rfl) rfl (m1 rfl ?_)))))))
      obtain ⟨r882, hx883, hr884⟩ := bd_some hx879
      refine clS C86 rfl rfl rfl rfl (fun w H hH le => w86 hH (hg.mono (le.at 1 rfl)) r6.1 [44, 32, 99, 111, 108, 46, 32] hx883) (m1 rfl (ex rfl rfl rfl (ex rfl rfl rfl (ex rfl rfl rfl (a1 rfl (a1 rfl (a1 rfl (on (sq (sq (rg ?_)))))))))))
      refine m1 rfl (nt rfl rfl (on ?_))
      refine cb rfl (fun hc888 => ?_) (fun hc888 => ?_)
      ·replace hc888 := nbt hc888
       have hr889 := if_f hc888 hr884
       refine rg (ld G9 rfl rfl (sS 0 rfl hK3) rfl (bu (cs := [.string (bs cite)]) T10.B153 rfl rfl rfl (fi U153 rfl rfl rfl (pnc rfl ?_))))
       cases hr889
       cases hr880
       cases hr846
       cases hr508
       intro a w hS hA
       exact ⟨hA.defers, rtT_pan hS.ext⟩
      ·replace hc888 := nbf hc888
       have hr890 := if_p hc888 hr884
       refine sk (rg (m1 rfl (m1 rfl (a1 rfl (sto 2 (cs := [.string (bs r882.2.1)]) Z9 rfl rfl rfl rfl rfl rfl rfl (on (sq (rg (m1 rfl ?_)))))))))
       obtain ⟨r891, hx892, hr893⟩ := bd_some hr890
       refine clK C87 rfl rfl rfl rfl (fun w H hH le => w87 hH (hg.mono (le.at 1 rfl)) r882.1 hx892) ?_
       rintro v_ K894 ⟨er895, rfl, he896⟩
       refine m1 rfl (ex rfl rfl rfl (ex rfl rfl rfl (a1 rfl (a1 rfl (on (sq (sq ?_)))))))
       obtain ⟨t909, hx910, hr911⟩ := bd_some hr893
       refine jn (fun a w => St M W H [K894, K2, H] [(2, cel b5 9 [.string (bs r882.2.1)]), (1, cel b4 106 [.int .u8 0, .int .i64 0, .int .i64 0, .int .i64 0])] w ∧ Has [] 50 a [(2, .pointer (some q1)), (9, .int .i64 r891.1), (45, .bool t909)]) ?_ ?_
       ·refine rg (m1 rfl (neE U146 rfl rfl he896 (m1 rfl ?_)))
        rcases Bool.eq_false_or_eq_true (r891.2) with hb912 | hb912
        ·have hr913 := if_p hb912 hx910
         refine gF rfl rfl (hb912) rfl (gF rfl rfl (hb912) rfl (gF rfl rfl (hb912) rfl (gF rfl rfl (hb912) rfl (pT rfl rfl (hb912) rfl (m1 rfl (gF rfl rfl rfl rfl (gF rfl rfl rfl rfl (gF rfl rfl rfl rfl (pT rfl rfl rfl rfl (on ?_))))))))))
         cases hr913
         exact cu ⟨rfl, rfl, rfl, tv⟩
        ·have hr914 := if_f hb912 hx910
         refine gN rfl rfl (hb912) (m1 rfl (gN rfl rfl (hb912) ?_))
         obtain ⟨r915, hx916, hr917⟩ := bd_some hr914
         refine clS C58 rfl rfl rfl rfl (fun w H hH le => w58 hH (hg.mono (le.at 2 rfl)) r891.1 hx916) (gN rfl rfl (hb912) (m1 rfl (gN rfl rfl (hb912) (neS rfl rfl rfl (pF rfl rfl (hb912) rfl (m1 rfl ?_))))))
         by_cases hb918 : r915 ≠ r882.1
         ·have hr919 := if_p hb918 hr917
          refine gf' hb918 rfl (gf' hb918 rfl (gf' hb918 rfl (pt hb918 rfl rfl (on ?_))))
          cases hr919
          exact cu ⟨rfl, rfl, rfl, tv⟩
         ·have hr920 := if_n hb918 hr917
          refine gt' hb918 rfl (m1 rfl (gt' hb918 rfl ?_))
          obtain ⟨r921, hx922, hr923⟩ := bd_some hr920
          refine clS C40 rfl rfl rfl rfl (fun w H hH le => w40 r891.1 0 999999 hx922) (gt' hb918 rfl (nt rfl rfl (pf hb918 rfl rfl (on ?_))))
          cases hr923
          exact cu ⟨rfl, rfl, rfl, tv⟩
       ·rintro a w ⟨hS, hA⟩
        refine TG.ap ?_ hS hA
        refine cb rfl (fun hc927 => ?_) (fun hc927 => ?_)
        ·have hr928 := if_p hc927 hr911
         refine rg (ld G9 rfl rfl (sS 1 rfl hK3) rfl (bu (cs := [.string (bs cite)]) T10.B153 rfl rfl rfl (fi U153 rfl rfl rfl (pnc rfl ?_))))
         cases hr928
         cases hr880
         cases hr846
         cases hr508
         intro a w hS hA
         exact ⟨hA.defers, rtT_pan hS.ext⟩
        ·have hr929 := if_f hc927 hr911
         refine sk (sq (rg (m1 rfl (a1 rfl (on (rt_ ?_))))))
         cases hr929
         intro a w hS hA
         refine ret1 hA rfl rfl ?_
         exact ⟨_, rfl, ⟨_, rfl, rfl, hS.selH [1, 2] rfl⟩⟩
     ·rintro a w v hA (⟨t881, rfl, rfl, hS⟩)
      refine putK rfl hA hS (m1 rfl ?_)
      obtain ⟨t958, hx959, hr960⟩ := bd_some hr880
      refine clIT C85 Tryz.func85 rfl Tryz.ntmps85 rfl rfl rfl rfl (fun v w => (∃ (t961 : Int × Bytes), t958 = (.inl t961) ∧ v = .int .i64 t961.1 ∧ St M W H [K2, H] [(2, cel b5 9 [.string (bs t961.2)]), (1, cel b4 106 [.int .u8 0, .int .i64 0, .int .i64 0, .int .i64 0])] w)) _ (fun _ _ _ hA h => ⟨hA.defers, h⟩) ?_ ?_
      ·refine sq (rg (a1 rfl (on (sq (rg (ld G9 rfl rfl (sO 2 rfl) rfl (a1 rfl (on (sq (sq (rg ?_)))))))))))
       refine m1 rfl (neS rfl rfl rfl (on (cT rfl ((by decide : decide (([44, 32, 108, 46, 32] : Bytes) ≠ []) = true)) (sq (rg (ld G9 rfl rfl (sO 2 rfl) rfl (m1 rfl ?_)))))))
       obtain ⟨r962, hx963, hr964⟩ := bd_some hx959
       refine clS C86 rfl rfl rfl rfl (fun w H hH le => w86 hH (hg.mono (le.at 1 rfl)) t881.2 [44, 32, 108, 46, 32] hx963) (m1 rfl (ex rfl rfl rfl (ex rfl rfl rfl (ex rfl rfl rfl (a1 rfl (a1 rfl (a1 rfl (on (sq (sq (rg ?_)))))))))))
       refine m1 rfl (nt rfl rfl (on ?_))
       refine cb rfl (fun hc968 => ?_) (fun hc968 => ?_)
       ·replace hc968 := nbt hc968
        have hr969 := if_f hc968 hr964
        refine rg (ld G9 rfl rfl (sS 0 rfl hK3) rfl (bu (cs := [.string (bs cite)]) T10.B153 rfl rfl rfl (fi U153 rfl rfl rfl (pnc rfl ?_))))
        cases hr969
        cases hr960
        cases hr846
        cases hr508
        intro a w hS hA
        exact ⟨hA.defers, rtT_pan hS.ext⟩
       ·replace hc968 := nbf hc968
        have hr970 := if_p hc968 hr964
        refine sk (rg (m1 rfl (m1 rfl (a1 rfl (sto 2 (cs := [.string (bs r962.2.1)]) Z9 rfl rfl rfl rfl rfl rfl rfl (on (sq (rg (m1 rfl ?_)))))))))
        obtain ⟨r971, hx972, hr973⟩ := bd_some hr970
        refine clK C87 rfl rfl rfl rfl (fun w H hH le => w87 hH (hg.mono (le.at 1 rfl)) r962.1 hx972) ?_
        rintro v_ K974 ⟨er975, rfl, he976⟩
        refine m1 rfl (ex rfl rfl rfl (ex rfl rfl rfl (a1 rfl (a1 rfl (on (sq (sq ?_)))))))
        obtain ⟨t989, hx990, hr991⟩ := bd_some hr973
        refine jn (fun a w => St M W H [K974, K2, H] [(2, cel b5 9 [.string (bs r962.2.1)]), (1, cel b4 106 [.int .u8 0, .int .i64 0, .int .i64 0, .int .i64 0])] w ∧ Has [] 50 a [(2, .pointer (some q1)), (9, .int .i64 r971.1), (45, .bool t989)]) ?_ ?_
        ·refine rg (m1 rfl (neE U146 rfl rfl he976 (m1 rfl ?_)))
         rcases Bool.eq_false_or_eq_true (r971.2) with hb992 | hb992
         ·have hr993 := if_p hb992 hx990
          refine gF rfl rfl (hb992) rfl (gF rfl rfl (hb992) rfl (gF rfl rfl (hb992) rfl (gF rfl rfl (hb992) rfl (pT rfl rfl (hb992) rfl (m1 rfl (gF rfl rfl rfl rfl (gF rfl rfl rfl rfl (gF rfl rfl rfl rfl (pT rfl rfl rfl rfl (on ?_))))))))))
          cases hr993
          exact cu ⟨rfl, rfl, rfl, tv⟩
         ·have hr994 := if_f hb992 hx990
          refine gN rfl rfl (hb992) (m1 rfl (gN rfl rfl (hb992) ?_))
          obtain ⟨r995, hx996, hr997⟩ := bd_some hr994
          refine clS C58 rfl rfl rfl rfl (fun w H hH le => w58 hH (hg.mono (le.at 2 rfl)) r971.1 hx996) (gN rfl rfl (hb992) (m1 rfl (gN rfl rfl (hb992) (neS rfl rfl rfl (pF rfl rfl (hb992) rfl (m1 rfl ?_))))))
          by_cases hb998 : r995 ≠ r962.1
          ·have hr999 := if_p hb998 hr997
           refine gf' hb998 rfl (gf' hb998 rfl (gf' hb998 rfl (pt hb998 rfl rfl (on ?_))))
           cases hr999
           exact cu ⟨rfl, rfl, rfl, tv⟩
          ·have hr1000 := if_n hb998 hr997
           refine gt' hb998 rfl (m1 rfl (gt' hb998 rfl ?_))
           obtain ⟨r1001, hx1002, hr1003⟩ := bd_some hr1000
           refine clS C40 rfl rfl rfl rfl (fun w H hH le => w40 r971.1 0 999999 hx1002) (gt' hb998 rfl (nt rfl rfl (pf hb998 rfl rfl (on ?_))))
           cases hr1003
           exact cu ⟨rfl, rfl, rfl, tv⟩
        ·rintro a w ⟨hS, hA⟩
         refine TG.ap ?_ hS hA
         refine cb rfl (fun hc1007 => ?_) (fun hc1007 => ?_)
         ·have hr1008 := if_p hc1007 hr991
          refine rg (ld G9 rfl rfl (sS 1 rfl hK3) rfl (bu (cs := [.string (bs cite)]) T10.B153 rfl rfl rfl (fi U153 rfl rfl rfl (pnc rfl ?_))))
          cases hr1008
          cases hr960
          cases hr846
          cases hr508
          intro a w hS hA
          exact ⟨hA.defers, rtT_pan hS.ext⟩
         ·have hr1009 := if_f hc1007 hr991
          refine sk (sq (rg (m1 rfl (a1 rfl (on (rt_ ?_))))))
          cases hr1009
          intro a w hS hA
          refine ret1 hA rfl rfl ?_
          exact ⟨_, rfl, ⟨_, rfl, rfl, hS.selH [1, 2] rfl⟩⟩
      ·rintro a w v hA (⟨t961, rfl, rfl, hS⟩)
       refine putK rfl hA hS (m1 rfl ?_)
       obtain ⟨t1032, hx1033, hr1034⟩ := bd_some hr960
       refine clIT C85 Tryz.func85 rfl Tryz.ntmps85 rfl rfl rfl rfl (fun v w => (∃ (t1035 : Int), t1032 = (.inl t1035) ∧ v = .int .i64 t1035 ∧ St M W H [K2, H] [(2, cel b5 9 [.string (bs t961.2)]), (1, cel b4 106 [.int .u8 0, .int .i64 0, .int .i64 0, .int .i64 0])] w)) _ (fun _ _ _ hA h => ⟨hA.defers, h⟩) ?_ ?_
       ·refine sq (rg (a1 rfl (on (sq (rg (ld G9 rfl rfl (sO 2 rfl) rfl (a1 rfl (on (sq (sq (rg ?_)))))))))))
        refine m1 rfl (neS rfl rfl rfl (on (cF rfl ((by decide : decide (([] : Bytes) ≠ []) = false)) (sk (sq (rg (m1 rfl ?_)))))))
        obtain ⟨r1036, hx1037, hr1038⟩ := bd_some hx1033
        refine clK C87 rfl rfl rfl rfl (fun w H hH le => w87 hH (hg.mono (le.at 1 rfl)) t961.2 hx1037) ?_
        rintro v_ K1039 ⟨er1040, rfl, he1041⟩
        refine m1 rfl (ex rfl rfl rfl (ex rfl rfl rfl (a1 rfl (a1 rfl (on (sq (sq ?_)))))))
        obtain ⟨t1054, hx1055, hr1056⟩ := bd_some hr1038
        refine jn (fun a w => St M W H [K1039, K2, H] [(2, cel b5 9 [.string (bs t961.2)]), (1, cel b4 106 [.int .u8 0, .int .i64 0, .int .i64 0, .int .i64 0])] w ∧ Has [] 50 a [(2, .pointer (some q1)), (9, .int .i64 r1036.1), (45, .bool t1054)]) ?_ ?_
        ·refine rg (m1 rfl (neE U146 rfl rfl he1041 (m1 rfl ?_)))
         rcases Bool.eq_false_or_eq_true (r1036.2) with hb1057 | hb1057
         ·have hr1058 := if_p hb1057 hx1055
          refine gF rfl rfl (hb1057) rfl (gF rfl rfl (hb1057) rfl (gF rfl rfl (hb1057) rfl (gF rfl rfl (hb1057) rfl (pT rfl rfl (hb1057) rfl (m1 rfl (gF rfl rfl rfl rfl (gF rfl rfl rfl rfl (gF rfl rfl rfl rfl (pT rfl rfl rfl rfl (on ?_))))))))))
          cases hr1058
          exact cu ⟨rfl, rfl, rfl, tv⟩
         ·have hr1059 := if_f hb1057 hx1055
          refine gN rfl rfl (hb1057) (m1 rfl (gN rfl rfl (hb1057) ?_))
          obtain ⟨r1060, hx1061, hr1062⟩ := bd_some hr1059
          refine clS C58 rfl rfl rfl rfl (fun w H hH le => w58 hH (hg.mono (le.at 2 rfl)) r1036.1 hx1061) (gN rfl rfl (hb1057) (m1 rfl (gN rfl rfl (hb1057) (neS rfl rfl rfl (pF rfl rfl (hb1057) rfl (m1 rfl ?_))))))
          by_cases hb1063 : r1060 ≠ t961.2
          ·have hr1064 := if_p hb1063 hr1062
           refine gf' hb1063 rfl (gf' hb1063 rfl (gf' hb1063 rfl (pt hb1063 rfl rfl (on ?_))))
           cases hr1064
           exact cu ⟨rfl, rfl, rfl, tv⟩
          ·have hr1065 := if_n hb1063 hr1062
           refine gt' hb1063 rfl (m1 rfl (gt' hb1063 rfl ?_))
           obtain ⟨r1066, hx1067, hr1068⟩ := bd_some hr1065
           refine clS C40 rfl rfl rfl rfl (fun w H hH le => w40 r1036.1 0 999999 hx1067) (gt' hb1063 rfl (nt rfl rfl (pf hb1063 rfl rfl (on ?_))))
           cases hr1068
           exact cu ⟨rfl, rfl, rfl, tv⟩
        ·rintro a w ⟨hS, hA⟩
         refine TG.ap ?_ hS hA
         refine cb rfl (fun hc1072 => ?_) (fun hc1072 => ?_)
         ·have hr1073 := if_p hc1072 hr1056
          refine rg (ld G9 rfl rfl (sS 1 rfl hK3) rfl (bu (cs := [.string (bs cite)]) T10.B153 rfl rfl rfl (fi U153 rfl rfl rfl (pnc rfl ?_))))
          cases hr1073
          cases hr1034
          cases hr846
          cases hr508
          intro a w hS hA
          exact ⟨hA.defers, rtT_pan hS.ext⟩
         ·have hr1074 := if_f hc1072 hr1056
          refine sk (sq (rg (m1 rfl (a1 rfl (on (rt_ ?_))))))
          cases hr1074
          intro a w hS hA
          refine ret1 hA rfl rfl ?_
          exact ⟨_, rfl, ⟨_, rfl, rfl, hS.selH [1, 2] rfl⟩⟩
       ·rintro a w v hA (⟨t1035, rfl, rfl, hS⟩)
        refine putK rfl hA hS (buA (cs := [.int .i64 t881.1, .int .i64 t961.1, .int .i64 t1035]) T10.B69 rfl rfl rfl (bu (cs := [.int .u8 0, .int .i64 t881.1, .int .i64 t961.1, .int .i64 t1035]) T10.B106 rfl rfl rfl (sto 1 (cs := [.int .u8 0, .int .i64 t881.1, .int .i64 t961.1, .int .i64 t1035]) Z106 rfl rfl rfl rfl rfl rfl rfl (on ?_))))
        cases hr1034
        intro a w hS hA
        exact ⟨_, rfl, hS, hA.cut ⟨rfl, rfl, tv⟩⟩
    ·have hr1075 := if_f hc848 hx845
     refine sq (rg (m1 rfl (sto 2 (cs := [.string (bs r6.1)]) Z9 rfl rfl rfl rfl rfl rfl rfl (on (rg (m1 rfl ?_))))))
     obtain ⟨t1104, hx1105, hr1106⟩ := bd_some hr1075
     refine clIT C85 Tryz.func85 rfl Tryz.ntmps85 rfl rfl rfl rfl (fun v w => (∃ (t1107 : Int × Bytes), t1104 = (.inl t1107) ∧ v = .int .i64 t1107.1 ∧ St M W H [K2, H] [(2, cel b5 9 [.string (bs t1107.2)]), (1, cel b4 106 [.int .u8 0, .int .i64 0, .int .i64 0, .int .i64 0])] w)) _ (fun _ _ _ hA h => ⟨hA.defers, h⟩) ?_ ?_
     ·refine sq (rg (a1 rfl (on (sq (rg (ld G9 rfl rfl (sO 2 rfl) rfl (a1 rfl (on (sq (sq (rg ?_)))))))))))
      refine m1 rfl (neS rfl rfl rfl (on (cT rfl ((by decide : decide (([44, 32] : Bytes) ≠ []) = true)) (sq (rg (ld G9 rfl rfl (sO 2 rfl) rfl (m1 rfl ?_)))))))
      obtain ⟨r1108, hx1109, hr1110⟩ := bd_some hx1105
      refine clS C86 rfl rfl rfl rfl (fun w H hH le => w86 hH (hg.mono (le.at 1 rfl)) r6.1 [44, 32] hx1109) (m1 rfl (ex rfl rfl rfl (ex rfl rfl rfl (ex rfl rfl rfl (a1 rfl (a1 rfl (a1 rfl (on (sq (sq (rg ?_)))))))))))
      refine m1 rfl (nt rfl rfl (on ?_))
      refine cb rfl (fun hc1114 => ?_) (fun hc1114 => ?_)
      ·replace hc1114 := nbt hc1114
       have hr1115 := if_f hc1114 hr1110
       refine rg (ld G9 rfl rfl (sS 0 rfl hK3) rfl (bu (cs := [.string (bs cite)]) T10.B153 rfl rfl rfl (fi U153 rfl rfl rfl (pnc rfl ?_))))
       cases hr1115
       cases hr1106
       cases hr846
       cases hr508
       intro a w hS hA
       exact ⟨hA.defers, rtT_pan hS.ext⟩
      ·replace hc1114 := nbf hc1114
       have hr1116 := if_p hc1114 hr1110
       refine sk (rg (m1 rfl (m1 rfl (a1 rfl (sto 2 (cs := [.string (bs r1108.2.1)]) Z9 rfl rfl rfl rfl rfl rfl rfl (on (sq (rg (m1 rfl ?_)))))))))
       obtain ⟨r1117, hx1118, hr1119⟩ := bd_some hr1116
       refine clK C87 rfl rfl rfl rfl (fun w H hH le => w87 hH (hg.mono (le.at 1 rfl)) r1108.1 hx1118) ?_
       rintro v_ K1120 ⟨er1121, rfl, he1122⟩
       refine m1 rfl (ex rfl rfl rfl (ex rfl rfl rfl (a1 rfl (a1 rfl (on (sq (sq ?_)))))))
       obtain ⟨t1135, hx1136, hr1137⟩ := bd_some hr1119
       refine jn (fun a w => St M W H [K1120, K2, H] [(2, cel b5 9 [.string (bs r1108.2.1)]), (1, cel b4 106 [.int .u8 0, .int .i64 0, .int .i64 0, .int .i64 0])] w ∧ Has [] 50 a [(2, .pointer (some q1)), (9, .int .i64 r1117.1), (45, .bool t1135)]) ?_ ?_
       ·refine rg (m1 rfl (neE U146 rfl rfl he1122 (m1 rfl ?_)))
        rcases Bool.eq_false_or_eq_true (r1117.2) with hb1138 | hb1138
        ·have hr1139 := if_p hb1138 hx1136
         refine gF rfl rfl (hb1138) rfl (gF rfl rfl (hb1138) rfl (gF rfl rfl (hb1138) rfl (gF rfl rfl (hb1138) rfl (pT rfl rfl (hb1138) rfl (m1 rfl (gF rfl rfl rfl rfl (gF rfl rfl rfl rfl (gF rfl rfl rfl rfl (pT rfl rfl rfl rfl (on ?_))))))))))
         cases hr1139
         exact cu ⟨rfl, rfl, rfl, tv⟩
        ·have hr1140 := if_f hb1138 hx1136
         refine gN rfl rfl (hb1138) (m1 rfl (gN rfl rfl (hb1138) ?_))
         obtain ⟨r1141, hx1142, hr1143⟩ := bd_some hr1140
         refine clS C58 rfl rfl rfl rfl (fun w H hH le => w58 hH (hg.mono (le.at 2 rfl)) r1117.1 hx1142) (gN rfl rfl (hb1138) (m1 rfl (gN rfl rfl (hb1138) (neS rfl rfl rfl (pF rfl rfl (hb1138) rfl (m1 rfl ?_))))))
         by_cases hb1144 : r1141 ≠ r1108.1
         ·have hr1145 := if_p hb1144 hr1143
          refine gf' hb1144 rfl (gf' hb1144 rfl (gf' hb1144 rfl (pt hb1144 rfl rfl (on ?_))))
          cases hr1145
          exact cu ⟨rfl, rfl, rfl, tv⟩
         ·have hr1146 := if_n hb1144 hr1143
          refine gt' hb1144 rfl (m1 rfl (gt' hb1144 rfl ?_))
          obtain ⟨r1147, hx1148, hr1149⟩ := bd_some hr1146
          refine clS C40 rfl rfl rfl rfl (fun w H hH le => w40 r1117.1 0 999999 hx1148) (gt' hb1144 rfl (nt rfl rfl (pf hb1144 rfl rfl (on ?_))))
          cases hr1149
          exact cu ⟨rfl, rfl, rfl, tv⟩
       ·rintro a w ⟨hS, hA⟩
        refine TG.ap ?_ hS hA
        refine cb rfl (fun hc1153 => ?_) (fun hc1153 => ?_)
        ·have hr1154 := if_p hc1153 hr1137
         refine rg (ld G9 rfl rfl (sS 1 rfl hK3) rfl (bu (cs := [.string (bs cite)]) T10.B153 rfl rfl rfl (fi U153 rfl rfl rfl (pnc rfl ?_))))
         cases hr1154
         cases hr1106
         cases hr846
         cases hr508
         intro a w hS hA
         exact ⟨hA.defers, rtT_pan hS.ext⟩
        ·have hr1155 := if_f hc1153 hr1137
         refine sk (sq (rg (m1 rfl (a1 rfl (on (rt_ ?_))))))
         cases hr1155
         intro a w hS hA
         refine ret1 hA rfl rfl ?_
         exact ⟨_, rfl, ⟨_, rfl, rfl, hS.selH [1, 2] rfl⟩⟩
     ·rintro a w v hA (⟨t1107, rfl, rfl, hS⟩)
      refine putK rfl hA hS (m1 rfl ?_)
      obtain ⟨t1184, hx1185, hr1186⟩ := bd_some hr1106
      refine clIT C85 Tryz.func85 rfl Tryz.ntmps85 rfl rfl rfl rfl (fun v w => (∃ (t1187 : Int × Bytes), t1184 = (.inl t1187) ∧ v = .int .i64 t1187.1 ∧ St M W H [K2, H] [(2, cel b5 9 [.string (bs t1187.2)]), (1, cel b4 106 [.int .u8 0, .int .i64 0, .int .i64 0, .int .i64 0])] w)) _ (fun _ _ _ hA h => ⟨hA.defers, h⟩) ?_ ?_
      ·refine sq (rg (a1 rfl (on (sq (rg (ld G9 rfl rfl (sO 2 rfl) rfl (a1 rfl (on (sq (sq (rg ?_)))))))))))
       refine m1 rfl (neS rfl rfl rfl (on (cT rfl ((by decide : decide (([44, 32, 112, 97, 114, 46, 32] : Bytes) ≠ []) = true)) (sq (rg (ld G9 rfl rfl (sO 2 rfl) rfl (m1 rfl ?_)))))))
       obtain ⟨r1188, hx1189, hr1190⟩ := bd_some hx1185
       refine clS C86 rfl rfl rfl rfl (fun w H hH le => w86 hH (hg.mono (le.at 1 rfl)) t1107.2 [44, 32, 112, 97, 114, 46, 32] hx1189) (m1 rfl (ex rfl rfl rfl (ex rfl rfl rfl (ex rfl rfl rfl (a1 rfl (a1 rfl (a1 rfl (on (sq (sq (rg ?_)))))))))))
       refine m1 rfl (nt rfl rfl (on ?_))
       refine cb rfl (fun hc1194 => ?_) (fun hc1194 => ?_)
       ·replace hc1194 := nbt hc1194
        have hr1195 := if_f hc1194 hr1190
        refine rg (ld G9 rfl rfl (sS 0 rfl hK3) rfl (bu (cs := [.string (bs cite)]) T10.B153 rfl rfl rfl (fi U153 rfl rfl rfl (pnc rfl ?_))))
        cases hr1195
        cases hr1186
        cases hr846
        cases hr508
        intro a w hS hA
        exact ⟨hA.defers, rtT_pan hS.ext⟩
       ·replace hc1194 := nbf hc1194
        have hr1196 := if_p hc1194 hr1190
        refine sk (rg (m1 rfl (m1 rfl (a1 rfl (sto 2 (cs := [.string (bs r1188.2.1)]) Z9 rfl rfl rfl rfl rfl rfl rfl (on (sq (rg (m1 rfl ?_)))))))))
        obtain ⟨r1197, hx1198, hr1199⟩ := bd_some hr1196
        refine clK C87 rfl rfl rfl rfl (fun w H hH le => w87 hH (hg.mono (le.at 1 rfl)) r1188.1 hx1198) ?_
        rintro v_ K1200 ⟨er1201, rfl, he1202⟩
        refine m1 rfl (ex rfl rfl rfl (ex rfl rfl rfl (a1 rfl (a1 rfl (on (sq (sq ?_)))))))
        obtain ⟨t1215, hx1216, hr1217⟩ := bd_some hr1199
        refine jn (fun a w => St M W H [K1200, K2, H] [(2, cel b5 9 [.string (bs r1188.2.1)]), (1, cel b4 106 [.int .u8 0, .int .i64 0, .int .i64 0, .int .i64 0])] w ∧ Has [] 50 a [(2, .pointer (some q1)), (9, .int .i64 r1197.1), (45, .bool t1215)]) ?_ ?_
        ·refine rg (m1 rfl (neE U146 rfl rfl he1202 (m1 rfl ?_)))
         rcases Bool.eq_false_or_eq_true (r1197.2) with hb1218 | hb1218
         ·have hr1219 := if_p hb1218 hx1216
          refine gF rfl rfl (hb1218) rfl (gF rfl rfl (hb1218) rfl (gF rfl rfl (hb1218) rfl (gF rfl rfl (hb1218) rfl (pT rfl rfl (hb1218) rfl (m1 rfl (gF rfl rfl rfl rfl (gF rfl rfl rfl rfl (gF rfl rfl rfl rfl (pT rfl rfl rfl rfl (on ?_))))))))))
          cases hr1219
          exact cu ⟨rfl, rfl, rfl, tv⟩
         ·have hr1220 := if_f hb1218 hx1216
          refine gN rfl rfl (hb1218) (m1 rfl (gN rfl rfl (hb1218) ?_))
          obtain ⟨r1221, hx1222, hr1223⟩ := bd_some hr1220
          refine clS C58 rfl rfl rfl rfl (fun w H hH le => w58 hH (hg.mono (le.at 2 rfl)) r1197.1 hx1222) (gN rfl rfl (hb1218) (m1 rfl (gN rfl rfl (hb1218) (neS rfl rfl rfl (pF rfl rfl (hb1218) rfl (m1 rfl ?_))))))
          by_cases hb1224 : r1221 ≠ r1188.1
          ·have hr1225 := if_p hb1224 hr1223
           refine gf' hb1224 rfl (gf' hb1224 rfl (gf' hb1224 rfl (pt hb1224 rfl rfl (on ?_))))
           cases hr1225
           exact cu ⟨rfl, rfl, rfl, tv⟩
          ·have hr1226 := if_n hb1224 hr1223
           refine gt' hb1224 rfl (m1 rfl (gt' hb1224 rfl ?_))
           obtain ⟨r1227, hx1228, hr1229⟩ := bd_some hr1226
           refine clS C40 rfl rfl rfl rfl (fun w H hH le => w40 r1197.1 0 999999 hx1228) (gt' hb1224 rfl (nt rfl rfl (pf hb1224 rfl rfl (on ?_))))
           cases hr1229
           exact cu ⟨rfl, rfl, rfl, tv⟩
        ·rintro a w ⟨hS, hA⟩
         refine TG.ap ?_ hS hA
         refine cb rfl (fun hc1233 => ?_) (fun hc1233 => ?_)
         ·have hr1234 := if_p hc1233 hr1217
          refine rg (ld G9 rfl rfl (sS 1 rfl hK3) rfl (bu (cs := [.string (bs cite)]) T10.B153 rfl rfl rfl (fi U153 rfl rfl rfl (pnc rfl ?_))))
          cases hr1234
          cases hr1186
          cases hr846
          cases hr508
          intro a w hS hA
          exact ⟨hA.defers, rtT_pan hS.ext⟩
         ·have hr1235 := if_f hc1233 hr1217
          refine sk (sq (rg (m1 rfl (a1 rfl (on (rt_ ?_))))))
          cases hr1235
          intro a w hS hA
          refine ret1 hA rfl rfl ?_
          exact ⟨_, rfl, ⟨_, rfl, rfl, hS.selH [1, 2] rfl⟩⟩
      ·rintro a w v hA (⟨t1187, rfl, rfl, hS⟩)
       refine putK rfl hA hS (m1 rfl ?_)
       obtain ⟨t1258, hx1259, hr1260⟩ := bd_some hr1186
       refine clIT C85 Tryz.func85 rfl Tryz.ntmps85 rfl rfl rfl rfl (fun v w => (∃ (t1261 : Int), t1258 = (.inl t1261) ∧ v = .int .i64 t1261 ∧ St M W H [K2, H] [(2, cel b5 9 [.string (bs t1187.2)]), (1, cel b4 106 [.int .u8 0, .int .i64 0, .int .i64 0, .int .i64 0])] w)) _ (fun _ _ _ hA h => ⟨hA.defers, h⟩) ?_ ?_
       ·refine sq (rg (a1 rfl (on (sq (rg (ld G9 rfl rfl (sO 2 rfl) rfl (a1 rfl (on (sq (sq (rg ?_)))))))))))
        refine m1 rfl (neS rfl rfl rfl (on (cF rfl ((by decide : decide (([] : Bytes) ≠ []) = false)) (sk (sq (rg (m1 rfl ?_)))))))
        obtain ⟨r1262, hx1263, hr1264⟩ := bd_some hx1259
        refine clK C87 rfl rfl rfl rfl (fun w H hH le => w87 hH (hg.mono (le.at 1 rfl)) t1187.2 hx1263) ?_
        rintro v_ K1265 ⟨er1266, rfl, he1267⟩
        refine m1 rfl (ex rfl rfl rfl (ex rfl rfl rfl (a1 rfl (a1 rfl (on (sq (sq ?_)))))))
        obtain ⟨t1280, hx1281, hr1282⟩ := bd_some hr1264
        refine jn (fun a w => St M W H [K1265, K2, H] [(2, cel b5 9 [.string (bs t1187.2)]), (1, cel b4 106 [.int .u8 0, .int .i64 0, .int .i64 0, .int .i64 0])] w ∧ Has [] 50 a [(2, .pointer (some q1)), (9, .int .i64 r1262.1), (45, .bool t1280)]) ?_ ?_
        ·refine rg (m1 rfl (neE U146 rfl rfl he1267 (m1 rfl ?_)))
         rcases Bool.eq_false_or_eq_true (r1262.2) with hb1283 | hb1283
         ·have hr1284 := if_p hb1283 hx1281
          refine gF rfl rfl (hb1283) rfl (gF rfl rfl (hb1283) rfl (gF rfl rfl (hb1283) rfl (gF rfl rfl (hb1283) rfl (pT rfl rfl (hb1283) rfl (m1 rfl (gF rfl rfl rfl rfl (gF rfl rfl rfl rfl (gF rfl rfl rfl rfl (pT rfl rfl rfl rfl (on ?_))))))))))
          cases hr1284
          exact cu ⟨rfl, rfl, rfl, tv⟩
         ·have hr1285 := if_f hb1283 hx1281
          refine gN rfl rfl (hb1283) (m1 rfl (gN rfl rfl (hb1283) ?_))
          obtain ⟨r1286, hx1287, hr1288⟩ := bd_some hr1285
          refine clS C58 rfl rfl rfl rfl (fun w H hH le => w58 hH (hg.mono (le.at 2 rfl)) r1262.1 hx1287) (gN rfl rfl (hb1283) (m1 rfl (gN rfl rfl (hb1283) (neS rfl rfl rfl (pF rfl rfl (hb1283) rfl (m1 rfl ?_))))))
          by_cases hb1289 : r1286 ≠ t1187.2
          ·have hr1290 := if_p hb1289 hr1288
           refine gf' hb1289 rfl (gf' hb1289 rfl (gf' hb1289 rfl (pt hb1289 rfl rfl (on ?_))))
           cases hr1290
           exact cu ⟨rfl, rfl, rfl, tv⟩
          ·have hr1291 := if_n hb1289 hr1288
           refine gt' hb1289 rfl (m1 rfl (gt' hb1289 rfl ?_))
           obtain ⟨r1292, hx1293, hr1294⟩ := bd_some hr1291
           refine clS C40 rfl rfl rfl rfl (fun w H hH le => w40 r1262.1 0 999999 hx1293) (gt' hb1289 rfl (nt rfl rfl (pf hb1289 rfl rfl (on ?_))))
           cases hr1294
           exact cu ⟨rfl, rfl, rfl, tv⟩
        ·rintro a w ⟨hS, hA⟩
         refine TG.ap ?_ hS hA
         refine cb rfl (fun hc1298 => ?_) (fun hc1298 => ?_)
         ·have hr1299 := if_p hc1298 hr1282
          refine rg (ld G9 rfl rfl (sS 1 rfl hK3) rfl (bu (cs := [.string (bs cite)]) T10.B153 rfl rfl rfl (fi U153 rfl rfl rfl (pnc rfl ?_))))
          cases hr1299
          cases hr1260
          cases hr846
          cases hr508
          intro a w hS hA
          exact ⟨hA.defers, rtT_pan hS.ext⟩
         ·have hr1300 := if_f hc1298 hr1282
          refine sk (sq (rg (m1 rfl (a1 rfl (on (rt_ ?_))))))
          cases hr1300
          intro a w hS hA
          refine ret1 hA rfl rfl ?_
          exact ⟨_, rfl, ⟨_, rfl, rfl, hS.selH [1, 2] rfl⟩⟩
       ·rintro a w v hA (⟨t1261, rfl, rfl, hS⟩)
        refine putK rfl hA hS (buA (cs := [.int .i64 t1107.1, .int .i64 t1187.1, .int .i64 t1261]) T10.B69 rfl rfl rfl (bu (cs := [.int .u8 1, .int .i64 t1107.1, .int .i64 t1187.1, .int .i64 t1261]) T10.B106 rfl rfl rfl (sto 1 (cs := [.int .u8 1, .int .i64 t1107.1, .int .i64 t1187.1, .int .i64 t1261]) Z106 rfl rfl rfl rfl rfl rfl rfl (on ?_))))
        cases hr1260
        intro a w hS hA
        exact ⟨_, rfl, hS, hA.cut ⟨rfl, rfl, tv⟩⟩
   ·rintro a w ⟨t847, rfl, hS, hA⟩
    cases hr846
    exact ⟨_, rfl, hS, hA.cut ⟨rfl, rfl, tv⟩⟩
 ·rintro a w ⟨t509, rfl, hS, hA⟩
  refine TG.ap ?_ hS hA
  refine sq (sq ?_)
  obtain ⟨t1307, hx1308, hr1309⟩ := bd_some hr508
  refine jn (fun a w => St M W H [K2, H] [(2, cel b5 9 [.string (bs t509.2.2.2.2)]), (1, cel b4 106 [.int .u8 t509.1, .int .i64 t509.2.1, .int .i64 t509.2.2.1, .int .i64 t509.2.2.2.1])] w ∧ Has [] 58 a [(1, .pointer (some q1)), (2, .pointer (some (⟨b4, 0, none⟩))), (53, .bool t1307)]) ?_ ?_
  ·refine rg (fb 0 U106 rfl rfl rfl rfl Z5 (ld G5 rfl rfl ((sO 1 rfl).take 1) rfl (neI rfl rfl rfl (m1 rfl ?_))))
   by_cases hb1310 : t509.1 ≠ 0
   ·have hr1311 := if_p hb1310 hx1308
    refine gt hb1310 rfl (fb 1 U106 rfl rfl rfl rfl Z69 (gt hb1310 rfl (iaA U69 Z3 rfl rfl rfl (j := 1) rfl (by decide) (gt hb1310 rfl (ld G3 rfl rfl (((sO 1 rfl).drop 2).take 1) rfl (gt hb1310 rfl ?_))))))
    obtain ⟨r1312, hx1313, hr1314⟩ := bd_some hr1311
    refine clS C34 rfl rfl rfl rfl (fun w H hH le => w34 t509.2.2.1 hx1313) (gt hb1310 rfl (nt rfl rfl (pt hb1310 rfl rfl (on ?_))))
    cases hr1314
    exact cu ⟨rfl, rfl, rfl, tv⟩
   ·have hr1315 := if_n hb1310 hx1308
    refine gf hb1310 rfl (gf hb1310 rfl (gf hb1310 rfl (gf hb1310 rfl (gf hb1310 rfl (pf hb1310 rfl rfl (on ?_))))))
    cases hr1315
    exact cu ⟨rfl, rfl, rfl, tv⟩
  ·rintro a w ⟨hS, hA⟩
   refine TG.ap ?_ hS hA
   refine cb rfl (fun hc1319 => ?_) (fun hc1319 => ?_)
   ·have hr1320 := if_p hc1319 hr1309
    refine rg (ld G9 rfl rfl (sS 0 rfl hK3) rfl (bu (cs := [.string (bs cite)]) T10.B153 rfl rfl rfl (fi U153 rfl rfl rfl (pnc rfl ?_))))
    cases hr1320
    intro a w hS hA
    exact ⟨hA.defers, rtT_pan hS.ext⟩
   ·have hr1321 := if_f hc1319 hr1309
    refine sk (sq (rg (ldA G106 Z106 rfl rfl (sO 1 rfl) rfl (sto 1 (cs := [.int .u8 t509.1, .int .i64 t509.2.1, .int .i64 t509.2.2.1, .int .i64 t509.2.2.2.1]) Z106 rfl rfl rfl rfl rfl rfl rfl (on (rt_ ?_))))))
    cases hr1321
    intro a w hS hA
    refine rc1 hA rfl (ResAt.cell rfl (loadsA G106 Z106 (cell_at (hS.get (t := 1) rfl)) rfl)) ?_
    exact rtT_ret rfl hS.ext

theorem w39 {M : Prop} {W : World} {H : Hp} (hH : H.le (hp W)) (hg : Gv M H) (p0_ : Bytes) {r : cited × Bool} (hr : m39 p0_ = some r) : Calls Tryz.prog 39 [.string (bs p0_)].toArray W (RetS M W (.tuple [.agg (enccited r.1).toArray, .bool r.2].toArray)) := by
 obtain ⟨o, h1, rfl⟩ := mp_some hr
 cases o with
 | inl c =>
  refine read39 hH p0_ c fun w K h2 h3 => (w61 h2 (hg.mono h3) p0_ h1).mono fun e w' h => ?_
  obtain ⟨rfl, hE⟩ := h
  exact ⟨rfl, hE⟩
 | inr u => exact readT hH p0_ fun w K h2 h3 => w61 h2 (hg.mono h3) p0_ h1

theorem w21 {M : Prop} {W : World} {H : Hp} (hH : H.le (hp W)) (hg : Gv M H) {cs_v_0 : List Value} (v_0 : Volume) (h_v_0 : (RVolume) H cs_v_0 v_0) {ad_errata : Option Addr} {cap_errata : Nat} {errata : List Erratum} (h_errata : Sl (Flat encErratum) 6 H ad_errata cap_errata errata) (cite : Bytes) {r : Int × Int × Int} (hr : m21 v_0 errata cite = some r) : Calls Tryz.prog 21 [.agg cs_v_0.toArray, .slice ad_errata errata.length cap_errata, .string (bs cite)].toArray W (RetS M W (.tuple [.int .i64 r.1, .int .i64 r.2.1, .int .i64 r.2.2].toArray)) := by
 have hh_v_0 := h_v_0
 obtain ⟨ad1, cap2, rfl, hl3⟩ := h_v_0
 have := hl3.len
 have := h_errata.len
 unfold m21 at hr
 refine enterG (M := M) Tryz.func21 rfl Tryz.ntmps21 rfl hH ?_
 refine sq (rg (bI (cs := [.int .i64 v_0.number, .int .i64 v_0.bound, .int .i64 v_0.height, .int .i64 v_0.width, .slice ad1 v_0.parts.length cap2]) rfl rfl rfl fun q4 K5 hK6 => (a1 rfl (a1 rfl (a1 rfl (on (sq (sq (rg (ldA G37 Z37 rfl rfl (sS 0 rfl hK6) rfl (m1 rfl ?_)))))))))))
 obtain ⟨r7, hx8, hr9⟩ := bd_some hr
 refine clS C33 rfl rfl rfl rfl (fun w H hH le => w33 hH v_0 (RVolume.mono _ _ _ _ (le.at 1 rfl) hh_v_0) (h_errata.mono (Flat.mono _) (le.at 1 rfl)) hx8) (a1 rfl (on (sq (rg (m1 rfl (neI rfl rfl rfl (on ?_)))))))
 refine ci rfl (fun hc13 => ?_) (fun hc13 => ?_)
 ·have hr14 := if_p hc13 hr9
  refine sq (rg (m1 rfl (a1 rfl (a1 rfl (a1 rfl (on (rt_ ?_)))))))
  cases hr14
  intro a w hS hA
  refine ret3 hA rfl rfl rfl rfl ?_
  exact ⟨rfl, hS.ext⟩
 ·have hr15 := if_n hc13 hr9
  refine sk (sq (rg (m1 rfl ?_)))
  obtain ⟨r16, hx17, hr18⟩ := bd_some hr15
  refine clS C39 rfl rfl rfl rfl (fun w H hH le => w39 hH (hg.mono (le.at 1 rfl)) cite hx17) (m1 rfl (ex rfl rfl rfl (ex rfl rfl rfl (va (cs := [.int .u8 r16.1.style, .int .i64 r16.1.numbers.e0, .int .i64 r16.1.numbers.e1, .int .i64 r16.1.numbers.e2]) Tryz.zeroValue106 Z106 rfl rfl rfl rfl rfl rfl rfl rfl fun q19 K20 hK21 => (a1 rfl (on (sq (sq (rg (m1 rfl (nt rfl rfl ?_)))))))))))
  refine on ?_
  refine cb rfl (fun hc25 => ?_) (fun hc25 => ?_)
  ·replace hc25 := nbt hc25
   have hr26 := if_f hc25 hr18
   refine sq (rg (a1 rfl (a1 rfl (a1 rfl (on (rt_ ?_))))))
   cases hr26
   intro a w hS hA
   refine ret3 hA rfl rfl rfl rfl ?_
   exact ⟨rfl, hS.ext⟩
  ·replace hc25 := nbf hc25
   have hr27 := if_p hc25 hr18
   refine sk (sq (rg (fb 1 U106 rfl rfl rfl rfl Z69 (ldA G69 Z69 rfl rfl ((sS 0 rfl hK21).drop 1) rfl (va (cs := [.int .i64 r16.1.numbers.e0, .int .i64 r16.1.numbers.e1, .int .i64 r16.1.numbers.e2]) Tryz.zeroValue69 Z69 rfl rfl rfl rfl rfl rfl rfl rfl fun q28 K29 hK30 => (on (sq (sq (rg (fb 0 U106 rfl rfl rfl rfl Z5 (ld G5 rfl rfl ((sS 1 rfl hK21).take 1) rfl ?_)))))))))))
   refine eqI rfl rfl rfl (on ?_)
   refine ci rfl (fun hc41 => ?_) (fun hc41 => ?_)
   ·have hr42 := if_p hc41 hr27
    refine sq (sq (rg (ldA G37 Z37 rfl rfl (sS 2 rfl hK6) rfl (m1 rfl (iaA U69 Z3 rfl rfl rfl (j := 0) rfl (by decide) (ld G3 rfl rfl ((sS 0 rfl hK30).take 1) rfl (iaA U69 Z3 rfl rfl rfl (j := 1) rfl (by decide) (ld G3 rfl rfl (((sS 0 rfl hK30).drop 1).take 1) rfl ?_))))))))
    obtain ⟨r43, hx44, hr45⟩ := bd_some hr42
    refine clS C23 rfl rfl rfl rfl (fun w H hH le => w23 hH v_0 (RVolume.mono _ _ _ _ (le.at 3 rfl) hh_v_0) (h_errata.mono (Flat.mono _) (le.at 3 rfl)) r16.1.numbers.e0 r16.1.numbers.e1 hx44) (m1 rfl (ex rfl rfl rfl (ex rfl rfl rfl (ex rfl rfl rfl (a1 rfl (a1 rfl (a1 rfl (on (sq (rg (m1 rfl ?_)))))))))))
    refine neI rfl rfl rfl (on ?_)
    refine ci rfl (fun hc49 => ?_) (fun hc49 => ?_)
    ·have hr50 := if_p hc49 hr45
     refine sq (rg (m1 rfl (a1 rfl (a1 rfl (a1 rfl (on (rt_ ?_)))))))
     cases hr50
     intro a w hS hA
     refine ret3 hA rfl rfl rfl rfl ?_
     exact ⟨rfl, hS.ext⟩
    ·have hr51 := if_n hc49 hr45
     refine sk (sq ?_)
     refine TG.cut (L' := [(0, .agg [.int .i64 v_0.number, .int .i64 v_0.bound, .int .i64 v_0.height, .int .i64 v_0.width, .slice ad1 v_0.parts.length cap2].toArray), (1, .slice ad_errata errata.length cap_errata), (2, .string (bs cite)), (3, .pointer (some q4)), (7, .int .i64 0), (8, .int .i64 0), (9, .int .i64 r7), (10, .pointer (some q19)), (11, .bool r16.2), (12, .pointer (some q28)), (13, .string (bs r43.1)), (14, .bool r43.2.1), (15, .int .i64 r43.2.2), (20, .agg [.int .i64 v_0.number, .int .i64 v_0.bound, .int .i64 v_0.height, .int .i64 v_0.width, .slice ad1 v_0.parts.length cap2].toArray), (21, .slice ad_errata errata.length cap_errata), (22, .int .i64 r7), (23, .int .i64 r7), (24, .bool (decide (r7 ≠ 0))), (26, .tuple [.agg (enccited r16.1).toArray, .bool r16.2].toArray), (27, .string (bs cite)), (28, .tuple [.agg (enccited r16.1).toArray, .bool r16.2].toArray), (29, .agg (enccited r16.1).toArray), (30, .bool r16.2), (31, .bool r16.2), (32, .bool (!r16.2)), (33, .pointer (some (q19.add 1))), (34, .agg [.int .i64 r16.1.numbers.e0, .int .i64 r16.1.numbers.e1, .int .i64 r16.1.numbers.e2].toArray), (35, .pointer (some q19)), (36, .int .u8 r16.1.style), (37, .bool (decide (r16.1.style = 2))), (38, .tuple [.string (bs r43.1), .bool r43.2.1, .int .i64 r43.2.2].toArray), (39, .agg [.int .i64 v_0.number, .int .i64 v_0.bound, .int .i64 v_0.height, .int .i64 v_0.width, .slice ad1 v_0.parts.length cap2].toArray), (40, .slice ad_errata errata.length cap_errata), (41, .pointer (some q28)), (42, .int .i64 r16.1.numbers.e0), (43, .pointer (some (q28.add 1))), (44, .int .i64 r16.1.numbers.e1), (45, .tuple [.string (bs r43.1), .bool r43.2.1, .int .i64 r43.2.2].toArray), (46, .string (bs r43.1)), (47, .bool r43.2.1), (48, .int .i64 r43.2.2), (49, .int .i64 r43.2.2), (50, .bool (decide (r43.2.2 ≠ 0)))]) ⟨rfl, rfl, rfl, rfl, rfl, rfl, rfl, rfl, rfl, rfl, rfl, rfl, rfl, rfl, rfl, rfl, rfl, rfl, rfl, rfl, rfl, rfl, rfl, rfl, rfl, rfl, rfl, rfl, rfl, rfl, rfl, rfl, rfl, rfl, rfl, rfl, rfl, rfl, rfl, rfl, rfl, rfl, rfl, tv⟩ ?_
     refine drG 5 mixed (by kernel_rfl) rfl (dt rfl (iaA U69 Z3 rfl rfl rfl (j := 0) rfl (by decide) fin1) (dt rfl (ld G3 rfl rfl ((sS 1 rfl hK30).take 1) rfl fin1) (dt rfl (iaA U69 Z3 rfl rfl rfl (j := 1) rfl (by decide) fin1) (dt rfl (ld G3 rfl rfl (((sS 1 rfl hK30).drop 1).take 1) rfl fin1) (dt rfl (a1 rfl fin1) (DF.nil fun K52 hF => (a1 rfl (a1 rfl (on (rt_ ?_))))))))))
     cases hr51
     intro a w hS hA
     refine ret3 hA rfl rfl rfl rfl ?_
     exact ⟨rfl, hS.ext⟩
   ·have hr53 := if_n hc41 hr27
    refine sk (sq (sq (rg (ldA G37 Z37 rfl rfl (sS 2 rfl hK6) rfl (m1 rfl ?_)))))
    obtain ⟨r54, hx55, hr56⟩ := bd_some hr53
    refine clK C37 rfl rfl rfl rfl (fun w H hH le => w37 hH v_0 (RVolume.mono _ _ _ _ (le.at 3 rfl) hh_v_0) (h_errata.mono (Flat.mono _) (le.at 3 rfl)) hx55) ?_
    rintro v_ K57 ⟨ad58, cap59, rfl, hl60⟩
    have := hl60.len
    refine lnL U100 rfl rfl (m1 rfl (on ?_))
    obtain ⟨e112, hl113, hr114⟩ := bd_some hr56
    refine jn (fun a w => ∃ t115, e112 = .inl t115 ∧ St M W H [K57, K29, K20, K5, H] [] w ∧ Has [] 122 a []) ?_ ?_
    ·refine bk ?_
     refine lp hl113 (fun s116 a w => St M W H [K57, K29, K20, K5, H] [] w ∧ Has [] 122 a [(3, .pointer (some q4)), (10, .pointer (some q19)), (12, .pointer (some q28)), (58, .slice ad58 r54.length cap59), (59, .int .i64 (r54.length : Int)), (60, .int .i64 (s116 : Int))]) ?_ ?_
     ·exact cu ⟨rfl, rfl, rfl, rfl, rfl, rfl, tv⟩
     ·rintro j s116 y119 hr117 hz118 a w ⟨hS, hA⟩
      refine TG.ap ?_ hS hA
      unfold m21_1 at hr117
      refine sq (rg (ltI rfl rfl rfl (on (sq ?_))))
      refine ci rfl (fun hc123 => ?_) (fun hc123 => ?_)
      ·have hr124 := if_p hc123 hr117
       refine sk (sq (bk (sq (rg ?_))))
       obtain ⟨x172, hx173, hr174⟩ := bd_some hr124
       obtain ⟨p175, rfl⟩ := hl60.adr hx173
       obtain ⟨cs176, hcs177, hq178, hr179⟩ := hl60.at hx173
       obtain rfl := hr179
       refine iaP U100 Z103 rfl rfl rfl rfl (lt_of hx173) (ldA G103 Z103 rfl rfl (sS 0 rfl hq178) rfl (va (cs := [.int .i64 x172.place.anchor, .int .i64 x172.place.column, .int .i64 x172.place.line, .int .i64 x172.place.lines, .int .i64 x172.day, .int .i64 x172.number]) Tryz.zeroValue103 Z103 rfl rfl rfl rfl rfl rfl rfl rfl fun q180 K181 hK182 => (on (sq (rg (iaA U69 Z3 rfl rfl rfl (j := 1) rfl (by decide) (ld G3 rfl rfl (((sS 2 rfl hK30).drop 1).take 1) rfl (fb 0 U103 rfl rfl rfl rfl Z63 (fb 1 U63 rfl rfl rfl rfl Z3 (ld G3 rfl rfl (((sS 0 rfl hK182).drop 1).take 1) rfl ?_))))))))))
       obtain ⟨hk183, hr184⟩ := chk_some hr174
       refine sbI rfl rfl rfl hk183 (fb 2 U37 rfl rfl rfl rfl Z3 (ld G3 rfl rfl (((sS 4 rfl hK6).drop 2).take 1) rfl ?_))
       obtain ⟨hk185, hr186⟩ := chk_some hr184
       refine mlI rfl rfl rfl hk185 (iaA U69 Z3 rfl rfl rfl (j := 2) rfl (by decide) (ld G3 rfl rfl ((sS 2 rfl hK30).drop 2) rfl ?_))
       obtain ⟨hk187, hr188⟩ := chk_some hr186
       refine adI rfl rfl rfl hk187 (fb 0 U103 rfl rfl rfl rfl Z63 (fb 2 U63 rfl rfl rfl rfl Z3 (ld G3 rfl rfl (((sS 0 rfl hK182).drop 2).take 1) rfl ?_)))
       obtain ⟨hk189, hr190⟩ := chk_some hr188
       refine sbI rfl rfl rfl hk189 (a1 rfl (on (sq ?_)))
       obtain ⟨t194, hx195, hr196⟩ := bd_some hr190
       refine jn (fun a w => St M W H [K181, K57, K29, K20, K5, H] [] w ∧ Has [] 122 a [(3, .pointer (some q4)), (10, .pointer (some q19)), (12, .pointer (some q28)), (17, .pointer (some q180)), (18, .int .i64 ((((r16.1.numbers.e1 - x172.place.column) * v_0.height) + r16.1.numbers.e2) - x172.place.line)), (19, .bool t194), (58, .slice (some p175) r54.length cap59), (59, .int .i64 (r54.length : Int)), (60, .int .i64 (s116 : Int))]) ?_ ?_
       ·refine rg (fb 4 U103 rfl rfl rfl rfl Z3 (ld G3 rfl rfl (((sS 0 rfl hK182).drop 4).take 1) rfl (iaA U69 Z3 rfl rfl rfl (j := 1) rfl (by decide) (ld G3 rfl rfl (((sS 2 rfl hK30).drop 1).take 1) rfl (eqI rfl rfl rfl (m1 rfl ?_))))))
        by_cases hb197 : x172.day = r16.1.numbers.e1
        ·have hr198 := if_p hb197 hx195
         refine gt hb197 rfl (fb 5 U103 rfl rfl rfl rfl Z3 (gt hb197 rfl (ld G3 rfl rfl ((sS 0 rfl hK182).drop 5) rfl (gt hb197 rfl (iaA U69 Z3 rfl rfl rfl (j := 2) rfl (by decide) (gt hb197 rfl (ld G3 rfl rfl ((sS 2 rfl hK30).drop 2) rfl (gt hb197 rfl (eqI rfl rfl rfl (pt hb197 rfl rfl (a1 rfl ?_)))))))))))
         refine on ?_
         cases hr198
         exact cu ⟨rfl, rfl, rfl, rfl, rfl, rfl, rfl, rfl, rfl, tv⟩
        ·have hr199 := if_n hb197 hx195
         refine gf hb197 rfl (gf hb197 rfl (gf hb197 rfl (gf hb197 rfl (gf hb197 rfl (pf hb197 rfl rfl (a1 rfl (on ?_)))))))
         cases hr199
         exact cu ⟨rfl, rfl, rfl, rfl, rfl, rfl, rfl, rfl, rfl, tv⟩
       ·rintro a w ⟨hS, hA⟩
        refine TG.ap ?_ hS hA
        refine sq (sq (rg (fb 0 U106 rfl rfl rfl rfl Z5 (ld G5 rfl rfl ((sS 3 rfl hK21).take 1) rfl (eqI rfl rfl rfl (on ?_))))))
        obtain ⟨t215, hx216, hr217⟩ := bd_some hr196
        refine jn (fun a w => St M W H [K181, K57, K29, K20, K5, H] [] w ∧ Has [] 122 a [(3, .pointer (some q4)), (10, .pointer (some q19)), (12, .pointer (some q28)), (17, .pointer (some q180)), (19, .bool t215), (58, .slice (some p175) r54.length cap59), (59, .int .i64 (r54.length : Int)), (60, .int .i64 (s116 : Int))]) ?_ ?_
        ·refine ci rfl (fun hc218 => ?_) (fun hc218 => ?_)
         ·have hr219 := if_p hc218 hx216
          obtain ⟨t231, hx232, hr233⟩ := bd_some hr219
          refine jn (fun a w => St M W H [K181, K57, K29, K20, K5, H] [] w ∧ Has [] 122 a [(3, .pointer (some q4)), (10, .pointer (some q19)), (12, .pointer (some q28)), (17, .pointer (some q180)), (19, .bool t231), (58, .slice (some p175) r54.length cap59), (59, .int .i64 (r54.length : Int)), (60, .int .i64 (s116 : Int))]) ?_ ?_
          ·refine rg (iaA U69 Z3 rfl rfl rfl (j := 2) rfl (by decide) (ld G3 rfl rfl ((sS 2 rfl hK30).drop 2) rfl (fb 2 U37 rfl rfl rfl rfl Z3 (ld G3 rfl rfl (((sS 4 rfl hK6).drop 2).take 1) rfl ?_))))
           obtain ⟨r234, hx235, hr236⟩ := bd_some hx232
           refine clS C40 rfl rfl rfl rfl (fun w H hH le => w40 r16.1.numbers.e2 1 v_0.height hx235) (m1 rfl ?_)
           rcases Bool.eq_false_or_eq_true (r234) with hb237 | hb237
           ·have hr238 := if_p hb237 hr236
            refine gN rfl rfl (hb237) (m1 rfl (gN rfl rfl (hb237) (fb 0 U103 rfl rfl rfl rfl Z63 (gN rfl rfl (hb237) (fb 3 U63 rfl rfl rfl rfl Z3 (gN rfl rfl (hb237) (ld G3 rfl rfl (((sS 0 rfl hK182).drop 3).take 1) rfl (gN rfl rfl (hb237) ?_))))))))
            obtain ⟨hk239, hr240⟩ := chk_some hr238
            refine sbI rfl rfl rfl hk239 (gN rfl rfl (hb237) ?_)
            obtain ⟨r241, hx242, hr243⟩ := bd_some hr240
            refine clS C40 rfl rfl rfl rfl (fun w H hH le => w40 ((((r16.1.numbers.e1 - x172.place.column) * v_0.height) + r16.1.numbers.e2) - x172.place.line) 0 (x172.place.lines - 1) hx242) (pT rfl rfl (hb237) rfl (a1 rfl (on ?_)))
            cases hr243
            exact cu ⟨rfl, rfl, rfl, rfl, rfl, rfl, rfl, rfl, tv⟩
           ·have hr244 := if_f hb237 hr236
            refine gF rfl rfl (hb237) rfl (gF rfl rfl (hb237) rfl (gF rfl rfl (hb237) rfl (gF rfl rfl (hb237) rfl (gF rfl rfl (hb237) rfl (gF rfl rfl (hb237) rfl (pF rfl rfl (hb237) rfl (a1 rfl (on ?_))))))))
            cases hr244
            exact cu ⟨rfl, rfl, rfl, rfl, rfl, rfl, rfl, rfl, tv⟩
          ·rintro a w ⟨hS, hA⟩
           refine TG.apJ ?_ hS hA
           cases hr233
           exact cu ⟨rfl, rfl, rfl, rfl, rfl, rfl, rfl, rfl, tv⟩
         ·have hr245 := if_n hc218 hx216
          refine sk ?_
          cases hr245
          exact cu ⟨rfl, rfl, rfl, rfl, rfl, rfl, rfl, rfl, tv⟩
        ·rintro a w ⟨hS, hA⟩
         refine TG.ap ?_ hS hA
         refine sq ?_
         obtain ⟨t249, hx250, hr251⟩ := bd_some hr217
         refine jn (fun a w => St M W H [K181, K57, K29, K20, K5, H] [] w ∧ Has [] 122 a [(3, .pointer (some q4)), (10, .pointer (some q19)), (12, .pointer (some q28)), (17, .pointer (some q180)), (58, .slice (some p175) r54.length cap59), (59, .int .i64 (r54.length : Int)), (60, .int .i64 (s116 : Int)), (115, .bool t249)]) ?_ ?_
         ·refine rg (m1 rfl (m1 rfl ?_))
          rcases Bool.eq_false_or_eq_true (t215) with hb252 | hb252
          ·have hr253 := if_p hb252 hx250
           refine gN rfl rfl (hb252) (iaA U69 Z3 rfl rfl rfl (j := 0) rfl (by decide) (gN rfl rfl (hb252) (ld G3 rfl rfl ((sS 2 rfl hK30).take 1) rfl (gN rfl rfl (hb252) (fb 0 U37 rfl rfl rfl rfl Z3 (gN rfl rfl (hb252) (ld G3 rfl rfl ((sS 4 rfl hK6).take 1) rfl (gN rfl rfl (hb252) (eqI rfl rfl rfl (pT rfl rfl (hb252) rfl (on ?_)))))))))))
           cases hr253
           exact cu ⟨rfl, rfl, rfl, rfl, rfl, rfl, rfl, rfl, tv⟩
          ·have hr254 := if_f hb252 hx250
           refine gF rfl rfl (hb252) rfl (gF rfl rfl (hb252) rfl (gF rfl rfl (hb252) rfl (gF rfl rfl (hb252) rfl (gF rfl rfl (hb252) rfl (pF rfl rfl (hb252) rfl (on ?_))))))
           cases hr254
           exact cu ⟨rfl, rfl, rfl, rfl, rfl, rfl, rfl, rfl, tv⟩
         ·rintro a w ⟨hS, hA⟩
          refine TG.ap ?_ hS hA
          refine cb rfl (fun hc259 => ?_) (fun hc259 => ?_)
          ·have hr260 := if_p hc259 hr251
           refine sq (drG 6 mixed (by kernel_rfl) rfl (dt rfl (fb 0 U103 rfl rfl rfl rfl Z63 fin1) (dt rfl (fb 0 U63 rfl rfl rfl rfl Z3 fin1) (dt rfl (ld G3 rfl rfl ((sS 1 rfl hK182).take 1) rfl fin1) (dt rfl (fb 1 U37 rfl rfl rfl rfl Z3 fin1) (dt rfl (ld G3 rfl rfl (((sS 5 rfl hK6).drop 1).take 1) rfl fin1) (dt rfl (a1 rfl fin1) (DF.nil fun K261 hF => (a1 rfl (a1 rfl (on ?_)))))))))))
           refine rt_ ?_
           cases hr260
           obtain rfl := Fin.out hz118
           cases hr114
           intro a w hS hA
           refine ret3 hA rfl rfl rfl rfl ?_
           exact ⟨rfl, hS.ext⟩
          ·have hr262 := if_f hc259 hr251
           refine sk (rg (adI rfl rfl rfl (by omega) (m1 rfl (on ?_))))
           cases hr262
           intro a w hS hA
           exact ⟨_, hz118, hS.selH [1, 2, 3, 4, 5] rfl, hA.cut ⟨rfl, rfl, rfl, rfl, rfl, rfl, tv⟩⟩
      ·have hr263 := if_n hc123 hr117
       refine xt rfl ?_
       cases hr263
       obtain rfl := Fin.out hz118
       intro a w hS hA
       exact ⟨_, rfl, hS, hA.cut tv⟩
    ·rintro a w ⟨t115, rfl, hS, hA⟩
     refine TG.ap ?_ hS hA
     refine sq (rg (a1 rfl (a1 rfl (a1 rfl (on (rt_ ?_))))))
     cases hr114
     intro a w hS hA
     refine ret3 hA rfl rfl rfl rfl ?_
     exact ⟨rfl, hS.ext⟩

theorem w16 {M : Prop} {W : World} {H : Hp} (hH : H.le (hp W)) {ad_a_0 : Option Addr} {cap_a_0 : Nat} {a_0 : List Paragraph} (h_a_0 : Sl (Flat encParagraph) 2 H ad_a_0 cap_a_0 a_0) {ad_b_1 : Option Addr} {cap_b_1 : Nat} {b_1 : List Paragraph} (h_b_1 : Sl (Flat encParagraph) 2 H ad_b_1 cap_b_1 b_1) {r : Bool} (hr : m16 a_0 b_1 = some r) : Calls Tryz.prog 16 [.slice ad_a_0 a_0.length cap_a_0, .slice ad_b_1 b_1.length cap_b_1].toArray W (RetS M W (.bool r)) := by
 have := h_a_0.len
 have := h_b_1.len
 unfold m16 at hr
 refine enterG (M := M) Tryz.func16 rfl Tryz.ntmps16 rfl hH ?_
 refine sq (rg (a1 rfl (on (sq (sq (rg (m1 rfl (lnL U31 rfl rfl (m1 rfl (lnL U31 rfl rfl (neI rfl rfl rfl ?_)))))))))))
 refine on ?_
 refine ci rfl (fun hc4 => ?_) (fun hc4 => ?_)
 ·have hr5 := if_p hc4 hr
  refine sq (rg (a1 rfl (on (rt_ ?_))))
  cases hr5
  intro a w hS hA
  refine ret1 hA rfl rfl ?_
  exact ⟨rfl, hS.ext⟩
 ·have hr6 := if_n hc4 hr
  refine sk (sq (sq (rg (a1 rfl (on ?_)))))
  obtain ⟨e31, hl32, hr33⟩ := bd_some hr6
  refine jn (fun a w => ∃ t34, e31 = .inl t34 ∧ St M W H [H] [] w ∧ Has [] 26 a []) ?_ ?_
  ·refine bk ?_
   refine lp hl32 (fun s35 a w => St M W H [H] [] w ∧ Has [] 26 a [(0, .slice ad_a_0 a_0.length cap_a_0), (1, .slice ad_b_1 b_1.length cap_b_1), (5, .int .i64 (s35 : Int))]) ?_ ?_
   ·exact cu ⟨rfl, rfl, rfl, tv⟩
   ·rintro j s35 y38 hr36 hz37 a w ⟨hS, hA⟩
    refine TG.ap ?_ hS hA
    unfold m16_1 at hr36
    refine sq (sq (rg (m1 rfl (m1 rfl (lnL U31 rfl rfl (ltI rfl rfl rfl (on ?_)))))))
    refine ci rfl (fun hc42 => ?_) (fun hc42 => ?_)
    ·have hr43 := if_p hc42 hr36
     refine sk (sq (bk (sq ?_)))
     obtain ⟨x64, hx65, hr66⟩ := bd_some hr43
     obtain ⟨p67, rfl⟩ := h_a_0.adr hx65
     obtain ⟨cs68, hcs69, hq70, hr71⟩ := h_a_0.at hx65
     obtain rfl := hr71
     obtain ⟨x72, hx73, hr74⟩ := bd_some hr66
     obtain ⟨p75, rfl⟩ := h_b_1.adr hx73
     obtain ⟨cs76, hcs77, hq78, hr79⟩ := h_b_1.at hx73
     obtain rfl := hr79
     refine drG 8 mixed (by kernel_rfl) rfl (dt rfl (m1 rfl fin1) (dt rfl (m1 rfl fin1) (dt rfl (iaP U31 Z67 rfl rfl rfl rfl (lt_of hx65) fin1) (dt rfl (ldA G67 Z67 rfl rfl (sS 1 rfl hq70) rfl fin1) (dt rfl (m1 rfl fin1) (dt rfl (m1 rfl fin1) (dt rfl (iaP U31 Z67 rfl rfl rfl rfl (lt_of hx73) fin1) (dt rfl (ldA G67 Z67 rfl rfl (sS 1 rfl hq78) rfl fin1) (DF.nil fun K80 hF => (neA x64 x72 T10.Q67 rfl rfl rfl (on ?_)))))))))))
     refine cb rfl (fun hc84 => ?_) (fun hc84 => ?_)
     ·replace hc84 := nbt hc84
      replace hc84 := of_decide_eq_false hc84
      have hr85 := if_n hc84 hr74
      refine sq (rg (a1 rfl (on (rt_ ?_))))
      cases hr85
      obtain rfl := Fin.out hz37
      cases hr33
      intro a w hS hA
      refine ret1 hA rfl rfl ?_
      exact ⟨rfl, hS.ext⟩
     ·replace hc84 := nbf hc84
      replace hc84 := of_decide_eq_true hc84
      have hr86 := if_p hc84 hr74
      refine sk (rg (m1 rfl (adI rfl rfl rfl (by omega) (a1 rfl (on ?_)))))
      cases hr86
      intro a w hS hA
      exact ⟨_, hz37, hS.selH [1] rfl, hA.cut ⟨rfl, rfl, rfl, tv⟩⟩
    ·have hr87 := if_n hc42 hr36
     refine xt rfl ?_
     cases hr87
     obtain rfl := Fin.out hz37
     intro a w hS hA
     exact ⟨_, rfl, hS, hA.cut tv⟩
  ·rintro a w ⟨t34, rfl, hS, hA⟩
   refine TG.ap ?_ hS hA
   refine sq (rg (a1 rfl (on (rt_ ?_))))
   cases hr33
   intro a w hS hA
   refine ret1 hA rfl rfl ?_
   exact ⟨rfl, hS.ext⟩

theorem w18 {M : Prop} {W : World} {H : Hp} (hH : H.le (hp W)) {ad_a_0 : Option Addr} {cap_a_0 : Nat} {a_0 : List Place} (h_a_0 : Sl (Flat encPlace) 4 H ad_a_0 cap_a_0 a_0) {ad_b_1 : Option Addr} {cap_b_1 : Nat} {b_1 : List Place} (h_b_1 : Sl (Flat encPlace) 4 H ad_b_1 cap_b_1 b_1) {r : Bool} (hr : m18 a_0 b_1 = some r) : Calls Tryz.prog 18 [.slice ad_a_0 a_0.length cap_a_0, .slice ad_b_1 b_1.length cap_b_1].toArray W (RetS M W (.bool r)) := by
 have := h_a_0.len
 have := h_b_1.len
 unfold m18 at hr
 refine enterG (M := M) Tryz.func18 rfl Tryz.ntmps18 rfl hH ?_
 refine sq (rg (a1 rfl (on (sq (sq (rg (m1 rfl (lnL U42 rfl rfl (m1 rfl (lnL U42 rfl rfl (neI rfl rfl rfl ?_)))))))))))
 refine on ?_
 refine ci rfl (fun hc4 => ?_) (fun hc4 => ?_)
 ·have hr5 := if_p hc4 hr
  refine sq (rg (a1 rfl (on (rt_ ?_))))
  cases hr5
  intro a w hS hA
  refine ret1 hA rfl rfl ?_
  exact ⟨rfl, hS.ext⟩
 ·have hr6 := if_n hc4 hr
  refine sk (sq (sq (rg (a1 rfl (on ?_)))))
  obtain ⟨e31, hl32, hr33⟩ := bd_some hr6
  refine jn (fun a w => ∃ t34, e31 = .inl t34 ∧ St M W H [H] [] w ∧ Has [] 26 a []) ?_ ?_
  ·refine bk ?_
   refine lp hl32 (fun s35 a w => St M W H [H] [] w ∧ Has [] 26 a [(0, .slice ad_a_0 a_0.length cap_a_0), (1, .slice ad_b_1 b_1.length cap_b_1), (5, .int .i64 (s35 : Int))]) ?_ ?_
   ·exact cu ⟨rfl, rfl, rfl, tv⟩
   ·rintro j s35 y38 hr36 hz37 a w ⟨hS, hA⟩
    refine TG.ap ?_ hS hA
    unfold m18_1 at hr36
    refine sq (sq (rg (m1 rfl (m1 rfl (lnL U42 rfl rfl (ltI rfl rfl rfl (on ?_)))))))
    refine ci rfl (fun hc42 => ?_) (fun hc42 => ?_)
    ·have hr43 := if_p hc42 hr36
     refine sk (sq (bk (sq ?_)))
     obtain ⟨x64, hx65, hr66⟩ := bd_some hr43
     obtain ⟨p67, rfl⟩ := h_a_0.adr hx65
     obtain ⟨cs68, hcs69, hq70, hr71⟩ := h_a_0.at hx65
     obtain rfl := hr71
     obtain ⟨x72, hx73, hr74⟩ := bd_some hr66
     obtain ⟨p75, rfl⟩ := h_b_1.adr hx73
     obtain ⟨cs76, hcs77, hq78, hr79⟩ := h_b_1.at hx73
     obtain rfl := hr79
     refine drG 8 mixed (by kernel_rfl) rfl (dt rfl (m1 rfl fin1) (dt rfl (m1 rfl fin1) (dt rfl (iaP U42 Z63 rfl rfl rfl rfl (lt_of hx65) fin1) (dt rfl (ldA G63 Z63 rfl rfl (sS 1 rfl hq70) rfl fin1) (dt rfl (m1 rfl fin1) (dt rfl (m1 rfl fin1) (dt rfl (iaP U42 Z63 rfl rfl rfl rfl (lt_of hx73) fin1) (dt rfl (ldA G63 Z63 rfl rfl (sS 1 rfl hq78) rfl fin1) (DF.nil fun K80 hF => (neA x64 x72 T10.Q63 rfl rfl rfl (on ?_)))))))))))
     refine cb rfl (fun hc84 => ?_) (fun hc84 => ?_)
     ·replace hc84 := nbt hc84
      replace hc84 := of_decide_eq_false hc84
      have hr85 := if_n hc84 hr74
      refine sq (rg (a1 rfl (on (rt_ ?_))))
      cases hr85
      obtain rfl := Fin.out hz37
      cases hr33
      intro a w hS hA
      refine ret1 hA rfl rfl ?_
      exact ⟨rfl, hS.ext⟩
     ·replace hc84 := nbf hc84
      replace hc84 := of_decide_eq_true hc84
      have hr86 := if_p hc84 hr74
      refine sk (rg (m1 rfl (adI rfl rfl rfl (by omega) (a1 rfl (on ?_)))))
      cases hr86
      intro a w hS hA
      exact ⟨_, hz37, hS.selH [1] rfl, hA.cut ⟨rfl, rfl, rfl, tv⟩⟩
    ·have hr87 := if_n hc42 hr36
     refine xt rfl ?_
     cases hr87
     obtain rfl := Fin.out hz37
     intro a w hS hA
     exact ⟨_, rfl, hS, hA.cut tv⟩
  ·rintro a w ⟨t34, rfl, hS, hA⟩
   refine TG.ap ?_ hS hA
   refine sq (rg (a1 rfl (on (rt_ ?_))))
   cases hr33
   intro a w hS hA
   refine ret1 hA rfl rfl ?_
   exact ⟨rfl, hS.ext⟩

theorem w12 {M : Prop} {W : World} {H : Hp} (hH : H.le (hp W)) (hg : Gv M H)  {r : Bool} (hr : m12 = some r) : Calls Tryz.prog 12 [].toArray W (RetS M W (.bool r)) := by
 unfold m12 at hr
 refine enterG (M := M) Tryz.func12 rfl Tryz.ntmps12 rfl hH ?_
 refine sq (rg (a1 rfl (on (sq (rg ?_)))))
 obtain ⟨r1, hx2, hr3⟩ := bd_some hr
 refine clK C25 rfl rfl rfl rfl (fun w H hH le => w25 hH  hx2) ?_
 rintro v_ K4 ⟨cs5, ad7, cap8, rfl, hr6, hl9⟩
 have hr10 := hr6
 obtain ⟨ad11, cap12, rfl, hl13⟩ := hr6
 have := hl13.len
 have := hl9.len
 refine m1 rfl (ex rfl rfl rfl (ex rfl rfl rfl (va (cs := [.int .i64 r1.1.number, .int .i64 r1.1.bound, .int .i64 r1.1.height, .int .i64 r1.1.width, .slice ad11 r1.1.parts.length cap12]) Tryz.zeroValue37 Z37 rfl rfl rfl rfl rfl rfl rfl rfl fun q14 K15 hK16 => (a1 rfl (on (sq (rg (ldA G37 Z37 rfl rfl (sS 0 rfl hK16) rfl (m1 rfl ?_)))))))))
 obtain ⟨r17, hx18, hr19⟩ := bd_some hr3
 refine clK C13 rfl rfl rfl rfl (fun w H hH le => w13 hH r1.1 (RVolume.mono _ _ _ _ (le.at 1 rfl) hr10) (hl9.mono (Flat.mono _) (le.at 1 rfl)) 60 hx18) ?_
 rintro v_ K20 ⟨ad21, cap22, rfl, hl23⟩
 have := hl23.len
 refine m1 rfl (ex rfl rfl rfl (ex rfl rfl rfl (a1 rfl (a1 rfl (on (sq (rg (ldA G37 Z37 rfl rfl (sS 1 rfl hK16) rfl (m1 rfl ?_)))))))))
 obtain ⟨r24, hx25, hr26⟩ := bd_some hr19
 refine clK C17 rfl rfl rfl rfl (fun w H hH le => w17 hH r1.1 (RVolume.mono _ _ _ _ (le.at 2 rfl) hr10) (hl9.mono (Flat.mono _) (le.at 2 rfl)) hx25) ?_
 rintro v_ K27 ⟨ad28, cap29, rfl, hl30⟩
 have := hl30.len
 refine m1 rfl (ex rfl rfl rfl (ex rfl rfl rfl (a1 rfl (a1 rfl (on (sq (rg (ldA G37 Z37 rfl rfl (sS 2 rfl hK16) rfl (m1 rfl ?_)))))))))
 obtain ⟨r31, hx32, hr33⟩ := bd_some hr26
 refine clS C20 rfl rfl rfl rfl (fun w H hH le => w20 hH (hg.mono (le.at 4 rfl)) r1.1 (RVolume.mono _ _ _ _ (le.at 3 rfl) hr10) (hl9.mono (Flat.mono _) (le.at 3 rfl)) 12 0 0 hx32) (m1 rfl (ex rfl rfl rfl (ex rfl rfl rfl (a1 rfl (a1 rfl (on (sq (rg (ldA G37 Z37 rfl rfl (sS 2 rfl hK16) rfl (m1 rfl ?_))))))))))
 obtain ⟨r34, hx35, hr36⟩ := bd_some hr33
 refine clS C20 rfl rfl rfl rfl (fun w H hH le => w20 hH (hg.mono (le.at 4 rfl)) r1.1 (RVolume.mono _ _ _ _ (le.at 3 rfl) hr10) (hl9.mono (Flat.mono _) (le.at 3 rfl)) 12 1 0 hx35) (m1 rfl (ex rfl rfl rfl (ex rfl rfl rfl (a1 rfl (a1 rfl (on (sq (rg (ldA G37 Z37 rfl rfl (sS 2 rfl hK16) rfl (m1 rfl ?_))))))))))
 obtain ⟨r37, hx38, hr39⟩ := bd_some hr36
 refine clS C21 rfl rfl rfl rfl (fun w H hH le => w21 hH (hg.mono (le.at 4 rfl)) r1.1 (RVolume.mono _ _ _ _ (le.at 3 rfl) hr10) (hl9.mono (Flat.mono _) (le.at 3 rfl)) [118, 111, 108, 46, 32, 51, 44, 32, 99, 111, 108, 46, 32, 49, 44, 32, 108, 46, 32, 51] hx38) (m1 rfl (ex rfl rfl rfl (ex rfl rfl rfl (ex rfl rfl rfl (a1 rfl (a1 rfl (a1 rfl (on (sq ?_)))))))))
 obtain ⟨t86, hx87, hr88⟩ := bd_some hr39
 refine jn (fun a w => St M W H [K27, K20, K15, K4, H] [] w ∧ Has [] 99 a [(0, .bool t86)]) ?_ ?_
 ·refine rg (m1 rfl (eqI rfl rfl rfl (m1 rfl ?_)))
  by_cases hb89 : r17.2 = 0
  ·have hr90 := if_p hb89 hx87
   refine gt hb89 rfl (m1 rfl (gt hb89 rfl (eqI rfl rfl rfl (pt hb89 rfl rfl (m1 rfl ?_)))))
   by_cases hb91 : r24.2 = 0
   ·have hr92 := if_p hb91 hr90
    refine gt hb91 rfl (m1 rfl (gt hb91 rfl (eqI rfl rfl rfl (pt hb91 rfl rfl (m1 rfl ?_)))))
    by_cases hb93 : r31.2 = 0
    ·have hr94 := if_p hb93 hr92
     refine gt hb93 rfl (m1 rfl (gt hb93 rfl (eqI rfl rfl rfl (pt hb93 rfl rfl (m1 rfl ?_)))))
     by_cases hb95 : r34.2 = 0
     ·have hr96 := if_p hb95 hr94
      refine gt hb95 rfl (m1 rfl (gt hb95 rfl (eqI rfl rfl rfl (pt hb95 rfl rfl (m1 rfl ?_)))))
      by_cases hb97 : r37.2.2 = 0
      ·have hr98 := if_p hb97 hr96
       refine gt hb97 rfl (m1 rfl (gt hb97 rfl (bu (cs := [.int .i64 20, .string (bs [84, 104, 101, 32, 83, 112, 101, 97, 107, 101, 114, 32, 116, 111, 111, 107, 32, 116, 104, 101, 32, 99, 104, 97, 105, 114, 46])]) T10.B67 rfl rfl rfl (gt hb97 rfl (bu (cs := [.int .i64 12, .string (bs [80, 114, 97, 121, 101, 114, 115, 32, 119, 101, 114, 101, 32, 115, 97, 105, 100, 46])]) T10.B67 rfl rfl rfl (gt hb97 rfl (bu (cs := [.int .i64 15, .string (bs [65, 32, 98, 105, 108, 108, 32, 119, 97, 115, 32, 114, 101, 97, 100, 46])]) T10.B67 rfl rfl rfl (gt hb97 rfl (bS (cs := [.int .i64 20, .string (bs [84, 104, 101, 32, 83, 112, 101, 97, 107, 101, 114, 32, 116, 111, 111, 107, 32, 116, 104, 101, 32, 99, 104, 97, 105, 114, 46]), .int .i64 12, .string (bs [80, 114, 97, 121, 101, 114, 115, 32, 119, 101, 114, 101, 32, 115, 97, 105, 100, 46]), .int .i64 15, .string (bs [65, 32, 98, 105, 108, 108, 32, 119, 97, 115, 32, 114, 101, 97, 100, 46])]) T10.E31 rfl rfl rfl rfl fun q99 K100 hq101 hK102 => ?_)))))))))
       have hl103 : Sl (Flat encParagraph) 2 K100 (some q99) 3 ([(⟨20, [84, 104, 101, 32, 83, 112, 101, 97, 107, 101, 114, 32, 116, 111, 111, 107, 32, 116, 104, 101, 32, 99, 104, 97, 105, 114, 46]⟩ : Paragraph), (⟨12, [80, 114, 97, 121, 101, 114, 115, 32, 119, 101, 114, 101, 32, 115, 97, 105, 100, 46]⟩ : Paragraph), (⟨15, [65, 32, 98, 105, 108, 108, 32, 119, 97, 115, 32, 114, 101, 97, 100, 46]⟩ : Paragraph)] : List Paragraph) := Sl.litR (css := [[.int .i64 20, .string (bs [84, 104, 101, 32, 83, 112, 101, 97, 107, 101, 114, 32, 116, 111, 111, 107, 32, 116, 104, 101, 32, 99, 104, 97, 105, 114, 46])], [.int .i64 12, .string (bs [80, 114, 97, 121, 101, 114, 115, 32, 119, 101, 114, 101, 32, 115, 97, 105, 100, 46])], [.int .i64 15, .string (bs [65, 32, 98, 105, 108, 108, 32, 119, 97, 115, 32, 114, 101, 97, 100, 46])]]) (l := ([(⟨20, [84, 104, 101, 32, 83, 112, 101, 97, 107, 101, 114, 32, 116, 111, 111, 107, 32, 116, 104, 101, 32, 99, 104, 97, 105, 114, 46]⟩ : Paragraph), (⟨12, [80, 114, 97, 121, 101, 114, 115, 32, 119, 101, 114, 101, 32, 115, 97, 105, 100, 46]⟩ : Paragraph), (⟨15, [65, 32, 98, 105, 108, 108, 32, 119, 97, 115, 32, 114, 101, 97, 100, 46]⟩ : Paragraph)] : List Paragraph)) ⟨⟨rfl, rfl, rfl⟩, ⟨rfl, rfl, rfl⟩, ⟨rfl, rfl, rfl⟩, tv⟩ hq101 hK102 rfl
       have := hl103.len
       refine gt hb97 rfl ?_
       obtain ⟨r104, hx105, hr106⟩ := bd_some hr98
       refine clS C16 rfl rfl rfl rfl (fun w H hH le => w16 hH (hl23.mono (Flat.mono _) (le.at 2 rfl)) (hl103.mono (Flat.mono _) (le.at 0 rfl)) hx105) (pt hb97 rfl rfl (m1 rfl ?_))
       rcases Bool.eq_false_or_eq_true (r104) with hb107 | hb107
       ·have hr108 := if_p hb107 hr106
        refine gN rfl rfl (hb107) (m1 rfl (gN rfl rfl (hb107) (bu (cs := [.int .i64 11, .int .i64 1, .int .i64 1, .int .i64 3]) T10.B63 rfl rfl rfl (gN rfl rfl (hb107) (bu (cs := [.int .i64 12, .int .i64 2, .int .i64 1, .int .i64 2]) T10.B63 rfl rfl rfl (gN rfl rfl (hb107) (bu (cs := [.int .i64 15, .int .i64 3, .int .i64 1, .int .i64 2]) T10.B63 rfl rfl rfl (gN rfl rfl (hb107) (bS (cs := [.int .i64 11, .int .i64 1, .int .i64 1, .int .i64 3, .int .i64 12, .int .i64 2, .int .i64 1, .int .i64 2, .int .i64 15, .int .i64 3, .int .i64 1, .int .i64 2]) T10.E42 rfl rfl rfl rfl fun q109 K110 hq111 hK112 => ?_)))))))))
        have hl113 : Sl (Flat encPlace) 4 K110 (some q109) 3 ([(⟨11, 1, 1, 3⟩ : Place), (⟨12, 2, 1, 2⟩ : Place), (⟨15, 3, 1, 2⟩ : Place)] : List Place) := Sl.litR (css := [[.int .i64 11, .int .i64 1, .int .i64 1, .int .i64 3], [.int .i64 12, .int .i64 2, .int .i64 1, .int .i64 2], [.int .i64 15, .int .i64 3, .int .i64 1, .int .i64 2]]) (l := ([(⟨11, 1, 1, 3⟩ : Place), (⟨12, 2, 1, 2⟩ : Place), (⟨15, 3, 1, 2⟩ : Place)] : List Place)) ⟨⟨rfl, rfl, rfl⟩, ⟨rfl, rfl, rfl⟩, ⟨rfl, rfl, rfl⟩, tv⟩ hq111 hK112 rfl
        have := hl113.len
        refine gN rfl rfl (hb107) ?_
        obtain ⟨r114, hx115, hr116⟩ := bd_some hr108
        refine clS C18 rfl rfl rfl rfl (fun w H hH le => w18 hH (hl30.mono (Flat.mono _) (le.at 2 rfl)) (hl113.mono (Flat.mono _) (le.at 0 rfl)) hx115) (pT rfl rfl (hb107) rfl (m1 rfl ?_))
        rcases Bool.eq_false_or_eq_true (r114) with hb117 | hb117
        ·have hr118 := if_p hb117 hr116
         refine gN rfl rfl (hb117) (m1 rfl (gN rfl rfl (hb117) (eqS rfl rfl rfl (pT rfl rfl (hb117) rfl (m1 rfl ?_)))))
         by_cases hb119 : r31.1 = [118, 111, 108, 46, 32, 51, 44, 32, 99, 111, 108, 46, 32, 50, 44, 32, 108, 46, 32, 49]
         ·have hr120 := if_p hb119 hr118
          refine gt hb119 rfl (m1 rfl (gt hb119 rfl (eqS rfl rfl rfl (pt hb119 rfl rfl (m1 rfl ?_)))))
          by_cases hb121 : r34.1 = [118, 111, 108, 46, 32, 51, 44, 32, 52, 48, 44, 32, 112, 97, 114, 46, 32, 50]
          ·have hr122 := if_p hb121 hr120
           refine gt hb121 rfl (m1 rfl (gt hb121 rfl (eqI rfl rfl rfl (pt hb121 rfl rfl (m1 rfl ?_)))))
           by_cases hb123 : r37.1 = 11
           ·have hr124 := if_p hb123 hr122
            refine gt hb123 rfl (m1 rfl (gt hb123 rfl (eqI rfl rfl rfl (pt hb123 rfl rfl (a1 rfl (on ?_))))))
            cases hr124
            intro a w hS hA
            exact ⟨hS.selH [2, 3, 4, 5, 6] rfl, hA.cut ⟨rfl, tv⟩⟩
           ·have hr125 := if_n hb123 hr122
            refine gf hb123 rfl (gf hb123 rfl (pf hb123 rfl rfl (a1 rfl (on ?_))))
            cases hr125
            intro a w hS hA
            exact ⟨hS.selH [2, 3, 4, 5, 6] rfl, hA.cut ⟨rfl, tv⟩⟩
          ·have hr126 := if_n hb121 hr120
           refine gf hb121 rfl (gf hb121 rfl (pf hb121 rfl rfl (m1 rfl (gF rfl rfl rfl rfl (gF rfl rfl rfl rfl (pF rfl rfl rfl rfl (a1 rfl (on ?_))))))))
           cases hr126
           intro a w hS hA
           exact ⟨hS.selH [2, 3, 4, 5, 6] rfl, hA.cut ⟨rfl, tv⟩⟩
         ·have hr127 := if_n hb119 hr118
          refine gf hb119 rfl (gf hb119 rfl (pf hb119 rfl rfl (m1 rfl (gF rfl rfl rfl rfl (gF rfl rfl rfl rfl (pF rfl rfl rfl rfl (m1 rfl (gF rfl rfl rfl rfl (gF rfl rfl rfl rfl (pF rfl rfl rfl rfl (a1 rfl ?_)))))))))))
          refine on ?_
          cases hr127
          intro a w hS hA
          exact ⟨hS.selH [2, 3, 4, 5, 6] rfl, hA.cut ⟨rfl, tv⟩⟩
        ·have hr128 := if_f hb117 hr116
         refine gF rfl rfl (hb117) rfl (gF rfl rfl (hb117) rfl (pF rfl rfl (hb117) rfl (m1 rfl (gF rfl rfl rfl rfl (gF rfl rfl rfl rfl (pF rfl rfl rfl rfl (m1 rfl (gF rfl rfl rfl rfl (gF rfl rfl rfl rfl (pF rfl rfl rfl rfl (m1 rfl ?_)))))))))))
         refine gF rfl rfl rfl rfl (gF rfl rfl rfl rfl (pF rfl rfl rfl rfl (a1 rfl (on ?_))))
         cases hr128
         intro a w hS hA
         exact ⟨hS.selH [2, 3, 4, 5, 6] rfl, hA.cut ⟨rfl, tv⟩⟩
       ·have hr129 := if_f hb107 hr106
        refine gF rfl rfl (hb107) rfl (gF rfl rfl (hb107) rfl (gF rfl rfl (hb107) rfl (gF rfl rfl (hb107) rfl (gF rfl rfl (hb107) rfl (gF rfl rfl (hb107) rfl (pF rfl rfl (hb107) rfl (m1 rfl (gF rfl rfl rfl rfl (gF rfl rfl rfl rfl (pF rfl rfl rfl rfl (m1 rfl ?_)))))))))))
        refine gF rfl rfl rfl rfl (gF rfl rfl rfl rfl (pF rfl rfl rfl rfl (m1 rfl (gF rfl rfl rfl rfl (gF rfl rfl rfl rfl (pF rfl rfl rfl rfl (m1 rfl (gF rfl rfl rfl rfl (gF rfl rfl rfl rfl (pF rfl rfl rfl rfl (a1 rfl ?_)))))))))))
        refine on ?_
        cases hr129
        intro a w hS hA
        exact ⟨hS.selH [1, 2, 3, 4, 5] rfl, hA.cut ⟨rfl, tv⟩⟩
      ·have hr130 := if_n hb97 hr96
       refine gf hb97 rfl (gf hb97 rfl (gf hb97 rfl (gf hb97 rfl (gf hb97 rfl (gf hb97 rfl (pf hb97 rfl rfl (m1 rfl (gF rfl rfl rfl rfl (gF rfl rfl rfl rfl (gF rfl rfl rfl rfl (gF rfl rfl rfl rfl ?_)))))))))))
       refine gF rfl rfl rfl rfl (gF rfl rfl rfl rfl (pF rfl rfl rfl rfl (m1 rfl (gF rfl rfl rfl rfl (gF rfl rfl rfl rfl (pF rfl rfl rfl rfl (m1 rfl (gF rfl rfl rfl rfl (gF rfl rfl rfl rfl (pF rfl rfl rfl rfl (m1 rfl ?_)))))))))))
       refine gF rfl rfl rfl rfl (gF rfl rfl rfl rfl (pF rfl rfl rfl rfl (m1 rfl (gF rfl rfl rfl rfl (gF rfl rfl rfl rfl (pF rfl rfl rfl rfl (a1 rfl (on ?_))))))))
       cases hr130
       exact cu ⟨rfl, tv⟩
     ·have hr131 := if_n hb95 hr94
      refine gf hb95 rfl (gf hb95 rfl (pf hb95 rfl rfl (m1 rfl (gF rfl rfl rfl rfl (gF rfl rfl rfl rfl (gF rfl rfl rfl rfl (gF rfl rfl rfl rfl (gF rfl rfl rfl rfl (gF rfl rfl rfl rfl (pF rfl rfl rfl rfl (m1 rfl ?_)))))))))))
      refine gF rfl rfl rfl rfl (gF rfl rfl rfl rfl (gF rfl rfl rfl rfl (gF rfl rfl rfl rfl (gF rfl rfl rfl rfl (gF rfl rfl rfl rfl (pF rfl rfl rfl rfl (m1 rfl (gF rfl rfl rfl rfl (gF rfl rfl rfl rfl (pF rfl rfl rfl rfl (m1 rfl ?_)))))))))))
      refine gF rfl rfl rfl rfl (gF rfl rfl rfl rfl (pF rfl rfl rfl rfl (m1 rfl (gF rfl rfl rfl rfl (gF rfl rfl rfl rfl (pF rfl rfl rfl rfl (m1 rfl (gF rfl rfl rfl rfl (gF rfl rfl rfl rfl (pF rfl rfl rfl rfl (a1 rfl ?_)))))))))))
      refine on ?_
      cases hr131
      exact cu ⟨rfl, tv⟩
    ·have hr132 := if_n hb93 hr92
     refine gf hb93 rfl (gf hb93 rfl (pf hb93 rfl rfl (m1 rfl (gF rfl rfl rfl rfl (gF rfl rfl rfl rfl (pF rfl rfl rfl rfl (m1 rfl (gF rfl rfl rfl rfl (gF rfl rfl rfl rfl (gF rfl rfl rfl rfl (gF rfl rfl rfl rfl ?_)))))))))))
     refine gF rfl rfl rfl rfl (gF rfl rfl rfl rfl (pF rfl rfl rfl rfl (m1 rfl (gF rfl rfl rfl rfl (gF rfl rfl rfl rfl (gF rfl rfl rfl rfl (gF rfl rfl rfl rfl (gF rfl rfl rfl rfl (gF rfl rfl rfl rfl (pF rfl rfl rfl rfl (m1 rfl ?_)))))))))))
     refine gF rfl rfl rfl rfl (gF rfl rfl rfl rfl (pF rfl rfl rfl rfl (m1 rfl (gF rfl rfl rfl rfl (gF rfl rfl rfl rfl (pF rfl rfl rfl rfl (m1 rfl (gF rfl rfl rfl rfl (gF rfl rfl rfl rfl (pF rfl rfl rfl rfl (m1 rfl ?_)))))))))))
     refine gF rfl rfl rfl rfl (gF rfl rfl rfl rfl (pF rfl rfl rfl rfl (a1 rfl (on ?_))))
     cases hr132
     exact cu ⟨rfl, tv⟩
   ·have hr133 := if_n hb91 hr90
    refine gf hb91 rfl (gf hb91 rfl (pf hb91 rfl rfl (m1 rfl (gF rfl rfl rfl rfl (gF rfl rfl rfl rfl (pF rfl rfl rfl rfl (m1 rfl (gF rfl rfl rfl rfl (gF rfl rfl rfl rfl (pF rfl rfl rfl rfl (m1 rfl ?_)))))))))))
    refine gF rfl rfl rfl rfl (gF rfl rfl rfl rfl (gF rfl rfl rfl rfl (gF rfl rfl rfl rfl (gF rfl rfl rfl rfl (gF rfl rfl rfl rfl (pF rfl rfl rfl rfl (m1 rfl (gF rfl rfl rfl rfl (gF rfl rfl rfl rfl (gF rfl rfl rfl rfl (gF rfl rfl rfl rfl ?_)))))))))))
    refine gF rfl rfl rfl rfl (gF rfl rfl rfl rfl (pF rfl rfl rfl rfl (m1 rfl (gF rfl rfl rfl rfl (gF rfl rfl rfl rfl (pF rfl rfl rfl rfl (m1 rfl (gF rfl rfl rfl rfl (gF rfl rfl rfl rfl (pF rfl rfl rfl rfl (m1 rfl ?_)))))))))))
    refine gF rfl rfl rfl rfl (gF rfl rfl rfl rfl (pF rfl rfl rfl rfl (m1 rfl (gF rfl rfl rfl rfl (gF rfl rfl rfl rfl (pF rfl rfl rfl rfl (a1 rfl (on ?_))))))))
    cases hr133
    exact cu ⟨rfl, tv⟩
  ·have hr134 := if_n hb89 hx87
   refine gf hb89 rfl (gf hb89 rfl (pf hb89 rfl rfl (m1 rfl (gF rfl rfl rfl rfl (gF rfl rfl rfl rfl (pF rfl rfl rfl rfl (m1 rfl (gF rfl rfl rfl rfl (gF rfl rfl rfl rfl (pF rfl rfl rfl rfl (m1 rfl ?_)))))))))))
   refine gF rfl rfl rfl rfl (gF rfl rfl rfl rfl (pF rfl rfl rfl rfl (m1 rfl (gF rfl rfl rfl rfl (gF rfl rfl rfl rfl (gF rfl rfl rfl rfl (gF rfl rfl rfl rfl (gF rfl rfl rfl rfl (gF rfl rfl rfl rfl (pF rfl rfl rfl rfl (m1 rfl ?_)))))))))))
   refine gF rfl rfl rfl rfl (gF rfl rfl rfl rfl (gF rfl rfl rfl rfl (gF rfl rfl rfl rfl (gF rfl rfl rfl rfl (gF rfl rfl rfl rfl (pF rfl rfl rfl rfl (m1 rfl (gF rfl rfl rfl rfl (gF rfl rfl rfl rfl (pF rfl rfl rfl rfl (m1 rfl ?_)))))))))))
   refine gF rfl rfl rfl rfl (gF rfl rfl rfl rfl (pF rfl rfl rfl rfl (m1 rfl (gF rfl rfl rfl rfl (gF rfl rfl rfl rfl (pF rfl rfl rfl rfl (m1 rfl (gF rfl rfl rfl rfl (gF rfl rfl rfl rfl (pF rfl rfl rfl rfl (a1 rfl ?_)))))))))))
   refine on ?_
   cases hr134
   exact cu ⟨rfl, tv⟩
 ·rintro a w ⟨hS, hA⟩
  refine TG.ap ?_ hS hA
  refine rt_ ?_
  cases hr88
  intro a w hS hA
  refine ret1 hA rfl rfl ?_
  exact ⟨rfl, hS.ext⟩

theorem w44 {M : Prop} {W : World} {H : Hp} (hH : H.le (hp W)) {ad_slices : Option Addr} {cap_slices : Nat} {slices : List (List Erratum)} (h_slices : Sl (RSl (Flat encErratum) 6) 1 H ad_slices cap_slices slices) {r : List Erratum} (hr : m44 slices = some r) : Calls Tryz.prog 44 [.slice ad_slices slices.length cap_slices].toArray W (RetK M H W (fun v K => ∃ (ad0 : Option Addr) (cap0 : Nat), v = .slice ad0 r.length cap0 ∧ Sl (Flat encErratum) 6 K ad0 cap0 r)) := by
 have := h_slices.len
 unfold m44 at hr
 refine enterG (M := M) Tryz.func44 rfl Tryz.ntmps44 rfl hH ?_
 refine sq (rg (a1 rfl (on (sq (rg (a1 rfl (on (sq (sq (rg (m1 rfl ?_)))))))))))
 refine lnL U156 rfl rfl (m1 rfl (on ?_))
 obtain ⟨e22, hl23, hr24⟩ := bd_some hr
 refine jn (fun a w => St M W H [H] [] w ∧ Has [] 36 a [(0, .slice ad_slices slices.length cap_slices), (3, .int .i64 (e22 : Int))]) ?_ ?_
 ·refine bk ?_
  refine lp hl23 (fun s25 a w => St M W H [H] [] w ∧ Has [] 36 a [(0, .slice ad_slices slices.length cap_slices), (3, .int .i64 (s25.1 : Int)), (9, .slice ad_slices slices.length cap_slices), (10, .int .i64 (slices.length : Int)), (11, .int .i64 (s25.2 : Int))]) ?_ ?_
  ·exact cu ⟨rfl, rfl, rfl, rfl, rfl, tv⟩
  ·rintro j s25 y28 hr26 hz27 a w ⟨hS, hA⟩
   refine TG.ap ?_ hS hA
   unfold m44_1 at hr26
   refine sq (rg (ltI rfl rfl rfl (on (sq ?_))))
   refine ci rfl (fun hc32 => ?_) (fun hc32 => ?_)
   ·have hr33 := if_p hc32 hr26
    refine sk (sq (bk (sq (rg ?_))))
    obtain ⟨x51, hx52, hr53⟩ := bd_some hr33
    obtain ⟨p54, rfl⟩ := h_slices.adr hx52
    obtain ⟨cs55, hcs56, hq57, hr58⟩ := h_slices.at hx52
    have hr59 := hr58
    obtain ⟨ad60, cap61, rfl, hl62⟩ := hr58
    have := hl62.len
    refine iaP U156 Z39 rfl rfl rfl rfl (lt_of hx52) (ld G39 rfl rfl (sS 0 rfl hq57) rfl (a1 rfl (on (sq (rg (m1 rfl (m1 rfl (lnL U39 rfl rfl ?_))))))))
    obtain ⟨hk63, hr64⟩ := chk_some hr53
    refine adI rfl rfl rfl hk63 (a1 rfl (on (sq (rg (m1 rfl (ltI rfl rfl rfl (on ?_)))))))
    refine ci rfl (fun hc68 => ?_) (fun hc68 => ?_)
    ·have hr69 := if_p hc68 hr64
     refine rg (fi U9 rfl rfl rfl ?_)
     cases hr69
    ·have hr70 := if_n hc68 hr64
     refine sk (rg (adI rfl rfl rfl (by omega) (m1 rfl (on ?_))))
     cases hr70
     intro a w hS hA
     exact ⟨_, hz27, hS, hA.cut ⟨rfl, rfl, rfl, rfl, rfl, tv⟩⟩
   ·have hr71 := if_n hc32 hr26
    refine xt rfl ?_
    cases hr71
    obtain rfl := Fin.out hz27
    exact cu ⟨rfl, rfl, tv⟩
 ·rintro a w ⟨hS, hA⟩
  refine TG.ap ?_ hS hA
  refine sq (rg (m1 rfl ?_))
  obtain ⟨hk72, hr73⟩ := chk_some hr24
  refine grw 1 (encErratum : Erratum → List Value) e22 Tryz.grow62 C62 rfl rfl rfl rfl rfl hk72 fun ad74 cap75 => (a1 rfl (on (sq (sq (rg (m1 rfl (lnL U156 rfl rfl (m1 rfl (on ?_)))))))))
  obtain ⟨e141, hl142, hr143⟩ := bd_some hr73
  refine jn (fun a w => ∃ (ad144 : Option Addr) (cap145 : Nat), St M W H [H] [(1, Own.list ad144 cap145 77 6 encErratum e141)] w ∧ Has [] 36 a [(6, .slice ad144 e141.length cap145)]) ?_ ?_
  ·refine bk ?_
   refine lp hl142 (fun s146 a w => ∃ (ad147 : Option Addr) (cap148 : Nat), St M W H [H] [(1, Own.list ad147 cap148 77 6 encErratum s146.2)] w ∧ Has [] 36 a [(6, .slice ad147 s146.2.length cap148), (25, .slice ad_slices slices.length cap_slices), (26, .int .i64 (slices.length : Int)), (27, .int .i64 (s146.1 : Int))]) ?_ ?_
   ·intro a w hS hA
    exact ⟨ad74, cap75, hS, hA.cut ⟨rfl, rfl, rfl, rfl, tv⟩⟩
   ·rintro j s146 y151 hr149 hz150 a w ⟨ad147, cap148, hS, hA⟩
    refine TG.ap ?_ hS hA
    unfold m44_2 at hr149
    refine sq (rg (ltI rfl rfl rfl (on (sq ?_))))
    refine ci rfl (fun hc155 => ?_) (fun hc155 => ?_)
    ·have hr156 := if_p hc155 hr149
     refine sk (sq (bk (sq (rg ?_))))
     obtain ⟨x173, hx174, hr175⟩ := bd_some hr156
     obtain ⟨p176, rfl⟩ := h_slices.adr hx174
     obtain ⟨cs177, hcs178, hq179, hr180⟩ := h_slices.at hx174
     have hr181 := hr180
     obtain ⟨ad182, cap183, rfl, hl184⟩ := hr180
     have := hl184.len
     refine iaP U156 Z39 rfl rfl rfl rfl (lt_of hx174) (ld G39 rfl rfl (sS 0 rfl hq179) rfl (a1 rfl (on (rg (m1 rfl (m1 rfl ?_))))))
     obtain ⟨hk185, hr186⟩ := chk_some hr175
     have := lenA s146.2 x173
     refine apS 1 (enc := encErratum) (l := s146.2) (m := x173) T10.E39 rfl rfl rfl rfl rfl rfl hl184 0 rfl (fun _ => rfl) (fun _ => rfl) rfl hk185 fun ad187 cap188 => (a1 rfl (on (rg (adI rfl rfl rfl (by omega) (m1 rfl (on ?_))))))
     cases hr186
     intro a w hS hA
     exact ⟨_, hz150, ad187, cap188, hS, hA.cut ⟨rfl, rfl, rfl, rfl, tv⟩⟩
    ·have hr189 := if_n hc155 hr149
     refine xt rfl ?_
     cases hr189
     obtain rfl := Fin.out hz150
     intro a w hS hA
     exact ⟨ad147, cap148, hS, hA.cut ⟨rfl, tv⟩⟩
  ·rintro a w ⟨ad144, cap145, hS, hA⟩
   refine TG.ap ?_ hS hA
   refine sq (rg (m1 rfl (a1 rfl (on (rt_ ?_)))))
   cases hr143
   intro a w hS hA
   refine ret1 hA rfl rfl ?_
   exact ⟨⟨_, _, rfl, (hS.listOut 1 rfl (fun _ => rfl))⟩, hS.ext⟩

theorem w26 {M : Prop} {W : World} {H : Hp} (hH : H.le (hp W)) {ad_a_0 : Option Addr} {cap_a_0 : Nat} {a_0 : List Erratum} (h_a_0 : Sl (Flat encErratum) 6 H ad_a_0 cap_a_0 a_0) {ad_b_1 : Option Addr} {cap_b_1 : Nat} {b_1 : List Erratum} (h_b_1 : Sl (Flat encErratum) 6 H ad_b_1 cap_b_1 b_1) {r : List Erratum × Int} (hr : m26 a_0 b_1 = some r) : Calls Tryz.prog 26 [.slice ad_a_0 a_0.length cap_a_0, .slice ad_b_1 b_1.length cap_b_1].toArray W (RetK M H W (fun v K => ∃ (ad0 : Option Addr) (cap0 : Nat), v = .tuple [.slice ad0 r.1.length cap0, .int .i64 r.2].toArray ∧ Sl (Flat encErratum) 6 K ad0 cap0 r.1)) := by
 have := h_a_0.len
 have := h_b_1.len
 unfold m26 at hr
 refine enterG (M := M) Tryz.func26 rfl Tryz.ntmps26 rfl hH ?_
 refine sq (rg (a1 rfl (a1 rfl (on (sq (rg (mkM 1 keI (fun x => Value.agg (encErratum x).toArray) rfl fun b1 => (a1 rfl (on (sq (rg ?_)))))))))))
 refine a1 rfl (on (sq (sq (rg (m1 rfl (m1 rfl (bS (cs := [.slice ad_a_0 a_0.length cap_a_0, .slice ad_b_1 b_1.length cap_b_1]) T10.E156 rfl rfl rfl rfl fun q2 K3 hq4 hK5 => (TG.pack (fun K => Sl (RSl (Flat encErratum) 6) 1 K (some q2) 2 ([a_0, b_1] : List (List Erratum))) (fun H le => Sl.litR (css := [[.slice ad_a_0 a_0.length cap_a_0], [.slice ad_b_1 b_1.length cap_b_1]]) (l := ([a_0, b_1] : List (List Erratum))) ⟨⟨rfl, rfl, ⟨_, _, rfl, (h_a_0.mono (Flat.mono _) (le.at 1 rfl))⟩⟩, ⟨rfl, rfl, ⟨_, _, rfl, (h_b_1.mono (Flat.mono _) (le.at 1 rfl))⟩⟩, tv⟩ hq4 (hK5.mono (le.at 0 rfl)) rfl) fun K7 hl6 => ?_))))))))
 have := hl6.len
 obtain ⟨t98, hx99, hr100⟩ := bd_some hr
 refine clI C44 Tryz.func44 rfl Tryz.ntmps44 rfl rfl rfl rfl (fun v w => (∃ (ad101 : Option Addr) (cap102 : Nat), v = .slice ad101 t98.length cap102 ∧ St M W H [K7, K3, H] [(2, Own.list ad101 cap102 77 6 encErratum t98), (1, Own.map' keI (fun x => Value.agg (encErratum x).toArray) b1 ([] : List (Int × Erratum)))] w)) ?_ ?_
 ·refine sq (rg (a1 rfl (on (sq (rg (a1 rfl (on (sq (sq (rg (m1 rfl ?_)))))))))))
  refine lnL U156 rfl rfl (m1 rfl (on ?_))
  obtain ⟨e123, hl124, hr125⟩ := bd_some hx99
  refine jn (fun a w => St M W H [K7, K3, H] [(1, Own.map' keI (fun x => Value.agg (encErratum x).toArray) b1 ([] : List (Int × Erratum)))] w ∧ Has [] 36 a [(0, .slice (some q2) 2 2), (3, .int .i64 (e123 : Int))]) ?_ ?_
  ·refine bk ?_
   refine lp hl124 (fun s126 a w => St M W H [K7, K3, H] [(1, Own.map' keI (fun x => Value.agg (encErratum x).toArray) b1 ([] : List (Int × Erratum)))] w ∧ Has [] 36 a [(0, .slice (some q2) 2 2), (3, .int .i64 (s126.1 : Int)), (9, .slice (some q2) 2 2), (10, .int .i64 2), (11, .int .i64 (s126.2 : Int))]) ?_ ?_
   ·exact cu ⟨rfl, rfl, rfl, rfl, rfl, tv⟩
   ·rintro j s126 y129 hr127 hz128 a w ⟨hS, hA⟩
    refine TG.ap ?_ hS hA
    unfold m26_1 at hr127
    refine sq (rg (ltI rfl rfl rfl (on (sq ?_))))
    refine ci rfl (fun hc133 => ?_) (fun hc133 => ?_)
    ·have hr134 := if_p hc133 hr127
     refine sk (sq (bk (sq (rg ?_))))
     obtain ⟨x151, hx152, hr153⟩ := bd_some hr134
     obtain ⟨cs154, hcs155, hq156, hr157⟩ := hl6.at hx152
     have hr158 := hr157
     obtain ⟨ad159, cap160, rfl, hl161⟩ := hr157
     have := hl161.len
     refine iaP U156 Z39 rfl rfl rfl rfl (lt_of hx152) (ld G39 rfl rfl (sS 0 rfl hq156) rfl (a1 rfl (on (sq (rg (m1 rfl (m1 rfl (lnL U39 rfl rfl ?_))))))))
     obtain ⟨hk162, hr163⟩ := chk_some hr153
     refine adI rfl rfl rfl hk162 (a1 rfl (on (sq (rg (m1 rfl (ltI rfl rfl rfl (on ?_)))))))
     refine ci rfl (fun hc167 => ?_) (fun hc167 => ?_)
     ·have hr168 := if_p hc167 hr163
      refine rg (fi U9 rfl rfl rfl ?_)
      cases hr168
     ·have hr169 := if_n hc167 hr163
      refine sk (rg (adI rfl rfl rfl (by omega) (m1 rfl (on ?_))))
      cases hr169
      intro a w hS hA
      exact ⟨_, hz128, hS, hA.cut ⟨rfl, rfl, rfl, rfl, rfl, tv⟩⟩
    ·have hr170 := if_n hc133 hr127
     refine xt rfl ?_
     cases hr170
     obtain rfl := Fin.out hz128
     exact cu ⟨rfl, rfl, tv⟩
  ·rintro a w ⟨hS, hA⟩
   refine TG.ap ?_ hS hA
   refine sq (rg (m1 rfl ?_))
   obtain ⟨hk171, hr172⟩ := chk_some hr125
   refine grw 2 (encErratum : Erratum → List Value) e123 Tryz.grow62 C62 rfl rfl rfl rfl rfl hk171 fun ad173 cap174 => (a1 rfl (on (sq (sq (rg (m1 rfl (lnL U156 rfl rfl (m1 rfl (on ?_)))))))))
   obtain ⟨e237, hl238, hr239⟩ := bd_some hr172
   refine jn (fun a w => ∃ (ad240 : Option Addr) (cap241 : Nat), St M W H [K7, K3, H] [(2, Own.list ad240 cap241 77 6 encErratum e237), (1, Own.map' keI (fun x => Value.agg (encErratum x).toArray) b1 ([] : List (Int × Erratum)))] w ∧ Has [] 36 a [(6, .slice ad240 e237.length cap241)]) ?_ ?_
   ·refine bk ?_
    refine lp hl238 (fun s242 a w => ∃ (ad243 : Option Addr) (cap244 : Nat), St M W H [K7, K3, H] [(2, Own.list ad243 cap244 77 6 encErratum s242.2), (1, Own.map' keI (fun x => Value.agg (encErratum x).toArray) b1 ([] : List (Int × Erratum)))] w ∧ Has [] 36 a [(6, .slice ad243 s242.2.length cap244), (25, .slice (some q2) 2 2), (26, .int .i64 2), (27, .int .i64 (s242.1 : Int))]) ?_ ?_
    ·intro a w hS hA
     exact ⟨ad173, cap174, hS, hA.cut ⟨rfl, rfl, rfl, rfl, tv⟩⟩
    ·rintro j s242 y247 hr245 hz246 a w ⟨ad243, cap244, hS, hA⟩
     refine TG.ap ?_ hS hA
     unfold m26_2 at hr245
     refine sq (rg (ltI rfl rfl rfl (on (sq ?_))))
     refine ci rfl (fun hc251 => ?_) (fun hc251 => ?_)
     ·have hr252 := if_p hc251 hr245
      refine sk (sq (bk (sq (rg ?_))))
      obtain ⟨x268, hx269, hr270⟩ := bd_some hr252
      obtain ⟨cs271, hcs272, hq273, hr274⟩ := hl6.at hx269
      have hr275 := hr274
      obtain ⟨ad276, cap277, rfl, hl278⟩ := hr274
      have := hl278.len
      refine iaP U156 Z39 rfl rfl rfl rfl (lt_of hx269) (ld G39 rfl rfl (sS 0 rfl hq273) rfl (a1 rfl (on (rg (m1 rfl (m1 rfl ?_))))))
      obtain ⟨hk279, hr280⟩ := chk_some hr270
      have := lenA s242.2 x268
      refine apS 2 (enc := encErratum) (l := s242.2) (m := x268) T10.E39 rfl rfl rfl rfl rfl rfl hl278 0 rfl (fun _ => rfl) (fun _ => rfl) rfl hk279 fun ad281 cap282 => (a1 rfl (on (rg (adI rfl rfl rfl (by omega) (m1 rfl (on ?_))))))
      cases hr280
      intro a w hS hA
      exact ⟨_, hz246, ad281, cap282, hS, hA.cut ⟨rfl, rfl, rfl, rfl, tv⟩⟩
     ·have hr283 := if_n hc251 hr245
      refine xt rfl ?_
      cases hr283
      obtain rfl := Fin.out hz246
      intro a w hS hA
      exact ⟨ad243, cap244, hS, hA.cut ⟨rfl, tv⟩⟩
   ·rintro a w ⟨ad240, cap241, hS, hA⟩
    refine TG.ap ?_ hS hA
    refine sq (rg (m1 rfl (a1 rfl (on (rt_ ?_)))))
    cases hr239
    intro a w hS hA
    refine ret1 hA rfl rfl ?_
    exact ⟨_, rfl, ⟨ad240, cap241, rfl, hS⟩⟩
 ·rintro a w v hA (⟨ad101, cap102, rfl, hS⟩)
  refine putK rfl hA hS (TG.len 2 rfl fun _ => (lnL U39 rfl rfl (m1 rfl (on (TG.nilRow 4 77 6 (TG.as 4 (z := Own.list none 0 77 6 encErratum ([] : List Erratum)) rfl rfl ?_))))))
  obtain ⟨e394, hl395, hr396⟩ := bd_some hr100
  refine jn (fun a w => ∃ t397, e394 = .inl t397 ∧ ∃ (ad398 : Option Addr) (cap399 : Nat), St M W H [K7, K3, H] [(4, Own.list ad398 cap399 77 6 encErratum t397.1), (2, Own.list ad101 cap102 77 6 encErratum t98), (1, Own.map' keI (fun x => Value.agg (encErratum x).toArray) b1 t397.2)] w ∧ Has [] 49 a [(7, .slice ad398 t397.1.length cap399)]) ?_ ?_
  ·refine bk ?_
   refine lp hl395 (fun s400 a w => ∃ (ad401 : Option Addr) (cap402 : Nat), St M W H [K7, K3, H] [(4, Own.list ad401 cap402 77 6 encErratum s400.2.1), (2, Own.list ad101 cap102 77 6 encErratum t98), (1, Own.map' keI (fun x => Value.agg (encErratum x).toArray) b1 s400.2.2)] w ∧ Has [] 49 a [(6, .map (some b1)), (7, .slice ad401 s400.2.1.length cap402), (16, .slice ad101 t98.length cap102), (17, .int .i64 (t98.length : Int)), (18, .int .i64 (s400.1 : Int))]) ?_ ?_
   ·intro a w hS hA
    exact ⟨none, 0, hS, hA.cut ⟨rfl, rfl, rfl, rfl, rfl, tv⟩⟩
   ·rintro j s400 y405 hr403 hz404 a w ⟨ad401, cap402, hS, hA⟩
    refine TG.ap ?_ hS hA
    unfold m26_3 at hr403
    refine sq (rg (ltI rfl rfl rfl (on (sq ?_))))
    refine ci rfl (fun hc409 => ?_) (fun hc409 => ?_)
    ·have hr410 := if_p hc409 hr403
     refine sk (sq (bk (sq (rg ?_))))
     obtain ⟨x439, hx440, hr441⟩ := bd_some hr410
     refine TG.addr 2 rfl (lt_of0 hx440) fun b442 h => ?_; subst h
     refine iaP U39 Z77 rfl rfl rfl rfl (lt_of hx440) (ldA G77 Z77 rfl rfl (sE 2 rfl (fun _ => rfl) hx440) rfl (va (cs := [.int .i64 x439.number, .int .i64 x439.day, .int .u8 x439.kind, .int .i64 x439.anchor, .string (bs x439.text), .int .i64 x439.new_]) Tryz.zeroValue77 Z77 rfl rfl rfl rfl rfl rfl rfl rfl fun q443 K444 hK445 => (on (sq (rg (m1 rfl (fb 0 U77 rfl rfl rfl rfl Z3 (ld G3 rfl rfl ((sS 0 rfl hK445).take 1) rfl (lk2 (ke := keI) (enc := (fun x => Value.agg (encErratum x).toArray)) x439.number (z0 := (⟨0, 0, 0, 0, [], 0⟩ : Erratum)) U118 U3 Tryz.zeroValue77 rfl rfl rfl rfl (mO 1 rfl) (m1 rfl (ex rfl rfl rfl ?_)))))))))))
     refine ex rfl rfl rfl (va (cs := [.int .i64 (((lkp s400.2.2 x439.number).getD (⟨0, 0, 0, 0, [], 0⟩ : Erratum)).number), .int .i64 (((lkp s400.2.2 x439.number).getD (⟨0, 0, 0, 0, [], 0⟩ : Erratum)).day), .int .u8 (((lkp s400.2.2 x439.number).getD (⟨0, 0, 0, 0, [], 0⟩ : Erratum)).kind), .int .i64 (((lkp s400.2.2 x439.number).getD (⟨0, 0, 0, 0, [], 0⟩ : Erratum)).anchor), .string (bs (((lkp s400.2.2 x439.number).getD (⟨0, 0, 0, 0, [], 0⟩ : Erratum)).text)), .int .i64 (((lkp s400.2.2 x439.number).getD (⟨0, 0, 0, 0, [], 0⟩ : Erratum)).new_)]) Tryz.zeroValue77 Z77 rfl rfl rfl rfl rfl rfl rfl rfl fun q446 K447 hK448 => (a1 rfl (on (sq (sq ?_)))))
     obtain ⟨t452, hx453, hr454⟩ := bd_some hr441
     refine jn (fun a w => St M W H [K447, K444, K7, K3, H] [(4, Own.list ad401 cap402 77 6 encErratum s400.2.1), (2, Own.list (some ⟨b442, 0, none⟩) cap102 77 6 encErratum t98), (1, Own.map' keI (fun x => Value.agg (encErratum x).toArray) b1 s400.2.2)] w ∧ Has [] 49 a [(6, .map (some b1)), (7, .slice ad401 s400.2.1.length cap402), (9, .pointer (some q443)), (11, .bool ((lkp s400.2.2 x439.number).isSome)), (16, .slice (some ⟨b442, 0, none⟩) t98.length cap102), (17, .int .i64 (t98.length : Int)), (18, .int .i64 (s400.1 : Int)), (34, .bool t452)]) ?_ ?_
     ·refine rg (m1 rfl (m1 rfl ?_))
      rcases Bool.eq_false_or_eq_true ((lkp s400.2.2 x439.number).isSome) with hb455 | hb455
      ·have hr456 := if_p hb455 hx453
       refine gN rfl rfl (hb455) (ldA G77 Z77 rfl rfl (sS 1 rfl hK445) rfl (gN rfl rfl (hb455) (ldA G77 Z77 rfl rfl (sS 0 rfl hK448) rfl (gN rfl rfl (hb455) (neA x439 ((lkp s400.2.2 x439.number).getD (⟨0, 0, 0, 0, [], 0⟩ : Erratum)) T10.Q77 rfl rfl rfl (pT rfl rfl (hb455) rfl (on ?_)))))))
       cases hr456
       exact cu ⟨rfl, rfl, rfl, rfl, rfl, rfl, rfl, rfl, tv⟩
      ·have hr457 := if_f hb455 hx453
       refine gF rfl rfl (hb455) rfl (gF rfl rfl (hb455) rfl (gF rfl rfl (hb455) rfl (pF rfl rfl (hb455) rfl (on ?_))))
       cases hr457
       exact cu ⟨rfl, rfl, rfl, rfl, rfl, rfl, rfl, rfl, tv⟩
     ·rintro a w ⟨hS, hA⟩
      refine TG.ap ?_ hS hA
      refine cb rfl (fun hc461 => ?_) (fun hc461 => ?_)
      ·have hr462 := if_p hc461 hr454
       refine sq (rg (a1 rfl (a1 rfl (on (rt_ ?_)))))
       cases hr462
       obtain rfl := Fin.out hz404
       cases hr396
       intro a w hS hA
       refine ret2 hA rfl rfl rfl ?_
       exact ⟨⟨_, _, rfl, (Sl.nil _ _ _ _ _ (by decide))⟩, hS.ext⟩
      ·have hr463 := if_f hc461 hr454
       refine sk (sq (rg (m1 rfl (nt rfl rfl (on ?_)))))
       obtain ⟨t472, hx473, hr474⟩ := bd_some hr463
       refine jn (fun a w => ∃ (ad475 : Option Addr) (cap476 : Nat), St M W H [K447, K444, K7, K3, H] [(4, Own.list ad475 cap476 77 6 encErratum t472.1), (2, Own.list (some ⟨b442, 0, none⟩) cap102 77 6 encErratum t98), (1, Own.map' keI (fun x => Value.agg (encErratum x).toArray) b1 t472.2)] w ∧ Has [] 49 a [(6, .map (some b1)), (7, .slice ad475 t472.1.length cap476), (16, .slice (some ⟨b442, 0, none⟩) t98.length cap102), (17, .int .i64 (t98.length : Int)), (18, .int .i64 (s400.1 : Int))]) ?_ ?_
       ·refine cb rfl (fun hc477 => ?_) (fun hc477 => ?_)
        ·replace hc477 := nbt hc477
         have hr478 := if_f hc477 hx473
         refine sq (rg (m1 rfl (fb 0 U77 rfl rfl rfl rfl Z3 (ld G3 rfl rfl ((sS 1 rfl hK445).take 1) rfl (ldA G77 Z77 rfl rfl (sS 1 rfl hK445) rfl (mpU 1 (ke := keI) (enc := (fun x => Value.agg (encErratum x).toArray)) x439.number x439 U118 U3 rfl rfl rfl rfl (on (rg (m1 rfl (ldA G77 Z77 rfl rfl (sS 1 rfl hK445) rfl ?_))))))))))
         obtain ⟨hk479, hr480⟩ := chk_some hr478
         have := lenA s400.2.1 [x439]
         refine ap1 4 encErratum (l := s400.2.1) x439 T10.E39 rfl rfl rfl rfl rfl rfl rfl rfl rfl rfl rfl rfl hk479 fun ad481 cap482 u483 => (a1 rfl (on ?_))
         cases hr480
         intro a w hS hA
         exact ⟨ad481, cap482, hS, hA.cut ⟨rfl, rfl, rfl, rfl, rfl, tv⟩⟩
        ·replace hc477 := nbf hc477
         have hr484 := if_p hc477 hx473
         refine sk ?_
         cases hr484
         intro a w hS hA
         exact ⟨ad401, cap402, hS, hA.cut ⟨rfl, rfl, rfl, rfl, rfl, tv⟩⟩
       ·rintro a w ⟨ad475, cap476, hS, hA⟩
        refine TG.ap ?_ hS hA
        refine rg (adI rfl rfl rfl (by omega) (m1 rfl (on ?_)))
        cases hr474
        intro a w hS hA
        exact ⟨_, hz404, ad475, cap476, hS.selH [2, 3, 4] rfl, hA.cut ⟨rfl, rfl, rfl, rfl, rfl, tv⟩⟩
    ·have hr485 := if_n hc409 hr403
     refine xt rfl ?_
     cases hr485
     obtain rfl := Fin.out hz404
     intro a w hS hA
     exact ⟨_, rfl, ad401, cap402, hS, hA.cut ⟨rfl, tv⟩⟩
  ·rintro a w ⟨t397, rfl, ad398, cap399, hS, hA⟩
   refine TG.ap ?_ hS hA
   refine sq (rg (m1 rfl ?_))
   obtain ⟨l486, hx487, hr488⟩ := bd_some hr396
   have hln489 : l486.length = t397.1.length := (sortO_len hx487)
   refine srtK 4 (enc := encErratum) (V := Va encErratum) (V' := Va encErratum) (fun _ => rfl) (fun _ => rfl) Tryz.srt45 C45 rfl rfl rfl rfl rfl rfl (fun H le => ⟨46, [], [], rfl, C46, fun w_ K_ args_ v_ hK hw hs => by obtain ⟨u0_, u1_, x0_, x1_, r_, rfl, h0_, h1_, hx, rfl⟩ := hs; cases h0_; cases h1_; exact w46  x0_ rfl x1_ rfl  hx⟩) (fun _ _ => rfl) (fun _ _ => rfl) hx487 (on (sq (rg (m1 rfl (a1 rfl (a1 rfl (on (rt_ (TG.cut (L' := [(4, .slice ad398 l486.length cap399), (5, .int .i64 0), (7, .slice ad398 l486.length cap399), (46, .slice ad398 l486.length cap399), (47, .tuple [].toArray), (48, .slice ad398 l486.length cap399)]) ⟨(by rw [hln489]; rfl), rfl, (by rw [hln489]; rfl), (by rw [hln489]; rfl), rfl, (by rw [hln489]; rfl), tv⟩ ?_)))))))))
   cases hr488
   intro a w hS hA
   refine ret2 hA rfl rfl rfl ?_
   exact ⟨⟨_, _, rfl, (hS.listOut 4 rfl (fun _ => rfl))⟩, hS.ext⟩

theorem w9 {M : Prop} {W : World} {H : Hp} (hH : H.le (hp W)) (hg : Gv M H)  {r : Bool} (hr : m9 = some r) : Calls Tryz.prog 9 [].toArray W (RetS M W (.bool r)) := by
 unfold m9 at hr
 refine enterG (M := M) Tryz.func9 rfl Tryz.ntmps9 rfl hH ?_
 refine sq (rg (a1 rfl (on (sq (rg ?_)))))
 obtain ⟨r1, hx2, hr3⟩ := bd_some hr
 refine clK C25 rfl rfl rfl rfl (fun w H hH le => w25 hH  hx2) ?_
 rintro v_ K4 ⟨cs5, ad7, cap8, rfl, hr6, hl9⟩
 have hr10 := hr6
 obtain ⟨ad11, cap12, rfl, hl13⟩ := hr6
 have := hl13.len
 have := hl9.len
 refine m1 rfl (ex rfl rfl rfl (ex rfl rfl rfl (va (cs := [.int .i64 r1.1.number, .int .i64 r1.1.bound, .int .i64 r1.1.height, .int .i64 r1.1.width, .slice ad11 r1.1.parts.length cap12]) Tryz.zeroValue37 Z37 rfl rfl rfl rfl rfl rfl rfl rfl fun q14 K15 hK16 => (a1 rfl (on (sq (rg (ldA G37 Z37 rfl rfl (sS 0 rfl hK16) rfl (m1 rfl ?_)))))))))
 obtain ⟨r17, hx18, hr19⟩ := bd_some hr3
 refine clK C13 rfl rfl rfl rfl (fun w H hH le => w13 hH r1.1 (RVolume.mono _ _ _ _ (le.at 1 rfl) hr10) (hl9.mono (Flat.mono _) (le.at 1 rfl)) 44 hx18) ?_
 rintro v_ K20 ⟨ad21, cap22, rfl, hl23⟩
 have := hl23.len
 refine m1 rfl (ex rfl rfl rfl (ex rfl rfl rfl (a1 rfl (a1 rfl (on (sq (rg (ldA G37 Z37 rfl rfl (sS 1 rfl hK16) rfl (m1 rfl ?_)))))))))
 obtain ⟨r24, hx25, hr26⟩ := bd_some hr19
 refine clS C23 rfl rfl rfl rfl (fun w H hH le => w23 hH r1.1 (RVolume.mono _ _ _ _ (le.at 2 rfl) hr10) (hl9.mono (Flat.mono _) (le.at 2 rfl)) 11 60 hx25) (m1 rfl (ex rfl rfl rfl (ex rfl rfl rfl (ex rfl rfl rfl (a1 rfl (a1 rfl (a1 rfl (on (sq (rg (ldA G37 Z37 rfl rfl (sS 1 rfl hK16) rfl ?_)))))))))))
 refine m1 rfl ?_
 obtain ⟨r27, hx28, hr29⟩ := bd_some hr26
 refine clS C23 rfl rfl rfl rfl (fun w H hH le => w23 hH r1.1 (RVolume.mono _ _ _ _ (le.at 2 rfl) hr10) (hl9.mono (Flat.mono _) (le.at 2 rfl)) 20 59 hx28) (m1 rfl (ex rfl rfl rfl (ex rfl rfl rfl (ex rfl rfl rfl (a1 rfl (a1 rfl (a1 rfl (on (sq (rg (ldA G37 Z37 rfl rfl (sS 1 rfl hK16) rfl ?_)))))))))))
 refine m1 rfl ?_
 obtain ⟨r30, hx31, hr32⟩ := bd_some hr29
 refine clS C20 rfl rfl rfl rfl (fun w H hH le => w20 hH (hg.mono (le.at 3 rfl)) r1.1 (RVolume.mono _ _ _ _ (le.at 2 rfl) hr10) (hl9.mono (Flat.mono _) (le.at 2 rfl)) 12 2 44 hx31) (m1 rfl (ex rfl rfl rfl (ex rfl rfl rfl (a1 rfl (a1 rfl (on (sq (rg (ldA G37 Z37 rfl rfl (sS 1 rfl hK16) rfl (m1 rfl ?_))))))))))
 obtain ⟨r33, hx34, hr35⟩ := bd_some hr32
 refine clS C21 rfl rfl rfl rfl (fun w H hH le => w21 hH (hg.mono (le.at 3 rfl)) r1.1 (RVolume.mono _ _ _ _ (le.at 2 rfl) hr10) (hl9.mono (Flat.mono _) (le.at 2 rfl)) [49, 50, 64, 52, 52] hx34) (m1 rfl (ex rfl rfl rfl (ex rfl rfl rfl (ex rfl rfl rfl (a1 rfl (a1 rfl (a1 rfl (on (sq (sq ?_))))))))))
 obtain ⟨t74, hx75, hr76⟩ := bd_some hr35
 refine jn (fun a w => St M W H [K20, K15, K4, H] [] w ∧ Has [] 255 a [(1, .pointer (some q14)), (2, .slice ad7 r1.2.length cap8), (122, .bool t74)]) ?_ ?_
 ·refine rg (m1 rfl (neI rfl rfl rfl (m1 rfl ?_)))
  by_cases hb77 : r17.2 ≠ 0
  ·have hr78 := if_p hb77 hx75
   refine gf' hb77 rfl (gf' hb77 rfl (pt hb77 rfl rfl (m1 rfl (gF rfl rfl rfl rfl (gF rfl rfl rfl rfl (pT rfl rfl rfl rfl (m1 rfl (gF rfl rfl rfl rfl (gF rfl rfl rfl rfl (pT rfl rfl rfl rfl (m1 rfl ?_)))))))))))
   refine gF rfl rfl rfl rfl (gF rfl rfl rfl rfl (gF rfl rfl rfl rfl (gF rfl rfl rfl rfl (gF rfl rfl rfl rfl (gF rfl rfl rfl rfl (gF rfl rfl rfl rfl (pT rfl rfl rfl rfl (m1 rfl (gF rfl rfl rfl rfl (gF rfl rfl rfl rfl (pT rfl rfl rfl rfl ?_)))))))))))
   refine m1 rfl (gF rfl rfl rfl rfl (gF rfl rfl rfl rfl (pT rfl rfl rfl rfl (m1 rfl (gF rfl rfl rfl rfl (gF rfl rfl rfl rfl (pT rfl rfl rfl rfl (m1 rfl (gF rfl rfl rfl rfl (gF rfl rfl rfl rfl (pT rfl rfl rfl rfl ?_)))))))))))
   refine m1 rfl (gF rfl rfl rfl rfl (gF rfl rfl rfl rfl (pT rfl rfl rfl rfl (m1 rfl (gF rfl rfl rfl rfl (gF rfl rfl rfl rfl (pT rfl rfl rfl rfl (on ?_))))))))
   cases hr78
   exact cu ⟨rfl, rfl, rfl, tv⟩
  ·have hr79 := if_n hb77 hx75
   refine gt' hb77 rfl (m1 rfl (gt' hb77 rfl (neI rfl rfl rfl (pf hb77 rfl rfl (m1 rfl ?_)))))
   by_cases hb80 : r24.2.2 ≠ 0
   ·have hr81 := if_p hb80 hr79
    refine gf' hb80 rfl (gf' hb80 rfl (pt hb80 rfl rfl (m1 rfl (gF rfl rfl rfl rfl (gF rfl rfl rfl rfl (pT rfl rfl rfl rfl (m1 rfl (gF rfl rfl rfl rfl (gF rfl rfl rfl rfl (gF rfl rfl rfl rfl (gF rfl rfl rfl rfl ?_)))))))))))
    refine gF rfl rfl rfl rfl (gF rfl rfl rfl rfl (gF rfl rfl rfl rfl (pT rfl rfl rfl rfl (m1 rfl (gF rfl rfl rfl rfl (gF rfl rfl rfl rfl (pT rfl rfl rfl rfl (m1 rfl (gF rfl rfl rfl rfl (gF rfl rfl rfl rfl (pT rfl rfl rfl rfl ?_)))))))))))
    refine m1 rfl (gF rfl rfl rfl rfl (gF rfl rfl rfl rfl (pT rfl rfl rfl rfl (m1 rfl (gF rfl rfl rfl rfl (gF rfl rfl rfl rfl (pT rfl rfl rfl rfl (m1 rfl (gF rfl rfl rfl rfl (gF rfl rfl rfl rfl (pT rfl rfl rfl rfl ?_)))))))))))
    refine m1 rfl (gF rfl rfl rfl rfl (gF rfl rfl rfl rfl (pT rfl rfl rfl rfl (on ?_))))
    cases hr81
    exact cu ⟨rfl, rfl, rfl, tv⟩
   ·have hr82 := if_n hb80 hr79
    refine gt' hb80 rfl (m1 rfl (gt' hb80 rfl (neI rfl rfl rfl (pf hb80 rfl rfl (m1 rfl ?_)))))
    by_cases hb83 : r30.2 ≠ 0
    ·have hr84 := if_p hb83 hr82
     refine gf' hb83 rfl (gf' hb83 rfl (pt hb83 rfl rfl (m1 rfl (gF rfl rfl rfl rfl (gF rfl rfl rfl rfl (gF rfl rfl rfl rfl (gF rfl rfl rfl rfl (gF rfl rfl rfl rfl (gF rfl rfl rfl rfl (gF rfl rfl rfl rfl (pT rfl rfl rfl rfl ?_)))))))))))
     refine m1 rfl (gF rfl rfl rfl rfl (gF rfl rfl rfl rfl (pT rfl rfl rfl rfl (m1 rfl (gF rfl rfl rfl rfl (gF rfl rfl rfl rfl (pT rfl rfl rfl rfl (m1 rfl (gF rfl rfl rfl rfl (gF rfl rfl rfl rfl (pT rfl rfl rfl rfl ?_)))))))))))
     refine m1 rfl (gF rfl rfl rfl rfl (gF rfl rfl rfl rfl (pT rfl rfl rfl rfl (m1 rfl (gF rfl rfl rfl rfl (gF rfl rfl rfl rfl (pT rfl rfl rfl rfl (m1 rfl (gF rfl rfl rfl rfl (gF rfl rfl rfl rfl (pT rfl rfl rfl rfl ?_)))))))))))
     refine on ?_
     cases hr84
     exact cu ⟨rfl, rfl, rfl, tv⟩
    ·have hr85 := if_n hb83 hr82
     refine gt' hb83 rfl (m1 rfl (gt' hb83 rfl (neI rfl rfl rfl (pf hb83 rfl rfl (m1 rfl ?_)))))
     by_cases hb86 : r33.2.2 ≠ 0
     ·have hr87 := if_p hb86 hr85
      refine gf' hb86 rfl (gf' hb86 rfl (gf' hb86 rfl (gf' hb86 rfl (gf' hb86 rfl (gf' hb86 rfl (gf' hb86 rfl (pt hb86 rfl rfl (m1 rfl (gF rfl rfl rfl rfl (gF rfl rfl rfl rfl (pT rfl rfl rfl rfl ?_)))))))))))
      refine m1 rfl (gF rfl rfl rfl rfl (gF rfl rfl rfl rfl (pT rfl rfl rfl rfl (m1 rfl (gF rfl rfl rfl rfl (gF rfl rfl rfl rfl (pT rfl rfl rfl rfl (m1 rfl (gF rfl rfl rfl rfl (gF rfl rfl rfl rfl (pT rfl rfl rfl rfl ?_)))))))))))
      refine m1 rfl (gF rfl rfl rfl rfl (gF rfl rfl rfl rfl (pT rfl rfl rfl rfl (m1 rfl (gF rfl rfl rfl rfl (gF rfl rfl rfl rfl (pT rfl rfl rfl rfl (on ?_))))))))
      cases hr87
      exact cu ⟨rfl, rfl, rfl, tv⟩
     ·have hr88 := if_n hb86 hr85
      refine gt' hb86 rfl (m1 rfl (gt' hb86 rfl (bu (cs := [.int .i64 11, .string (bs [84, 104, 101, 32, 72, 111, 117, 115, 101, 32, 109, 101, 116, 32, 97, 116, 32, 116, 119, 111, 46])]) T10.B67 rfl rfl rfl (gt' hb86 rfl (bu (cs := [.int .i64 12, .string (bs [80, 114, 97, 121, 101, 114, 115, 46])]) T10.B67 rfl rfl rfl (gt' hb86 rfl (bu (cs := [.int .i64 15, .string (bs [65, 32, 98, 105, 108, 108, 32, 119, 97, 115, 32, 114, 101, 97, 100, 46])]) T10.B67 rfl rfl rfl (gt' hb86 rfl (bS (cs := [.int .i64 11, .string (bs [84, 104, 101, 32, 72, 111, 117, 115, 101, 32, 109, 101, 116, 32, 97, 116, 32, 116, 119, 111, 46]), .int .i64 12, .string (bs [80, 114, 97, 121, 101, 114, 115, 46]), .int .i64 15, .string (bs [65, 32, 98, 105, 108, 108, 32, 119, 97, 115, 32, 114, 101, 97, 100, 46])]) T10.E31 rfl rfl rfl rfl fun q89 K90 hq91 hK92 => ?_)))))))))
      have hl93 : Sl (Flat encParagraph) 2 K90 (some q89) 3 ([(⟨11, [84, 104, 101, 32, 72, 111, 117, 115, 101, 32, 109, 101, 116, 32, 97, 116, 32, 116, 119, 111, 46]⟩ : Paragraph), (⟨12, [80, 114, 97, 121, 101, 114, 115, 46]⟩ : Paragraph), (⟨15, [65, 32, 98, 105, 108, 108, 32, 119, 97, 115, 32, 114, 101, 97, 100, 46]⟩ : Paragraph)] : List Paragraph) := Sl.litR (css := [[.int .i64 11, .string (bs [84, 104, 101, 32, 72, 111, 117, 115, 101, 32, 109, 101, 116, 32, 97, 116, 32, 116, 119, 111, 46])], [.int .i64 12, .string (bs [80, 114, 97, 121, 101, 114, 115, 46])], [.int .i64 15, .string (bs [65, 32, 98, 105, 108, 108, 32, 119, 97, 115, 32, 114, 101, 97, 100, 46])]]) (l := ([(⟨11, [84, 104, 101, 32, 72, 111, 117, 115, 101, 32, 109, 101, 116, 32, 97, 116, 32, 116, 119, 111, 46]⟩ : Paragraph), (⟨12, [80, 114, 97, 121, 101, 114, 115, 46]⟩ : Paragraph), (⟨15, [65, 32, 98, 105, 108, 108, 32, 119, 97, 115, 32, 114, 101, 97, 100, 46]⟩ : Paragraph)] : List Paragraph)) ⟨⟨rfl, rfl, rfl⟩, ⟨rfl, rfl, rfl⟩, ⟨rfl, rfl, rfl⟩, tv⟩ hq91 hK92 rfl
      have := hl93.len
      refine gt' hb86 rfl ?_
      obtain ⟨r94, hx95, hr96⟩ := bd_some hr88
      refine clS C16 rfl rfl rfl rfl (fun w H hH le => w16 hH (hl23.mono (Flat.mono _) (le.at 1 rfl)) (hl93.mono (Flat.mono _) (le.at 0 rfl)) hx95) (gt' hb86 rfl (nt rfl rfl (pf hb86 rfl rfl (m1 rfl ?_))))
      rcases Bool.eq_false_or_eq_true (r94) with hb97 | hb97
      ·have hr98 := if_p hb97 hr96
       refine gN rfl rfl (congrArg not (hb97)) (m1 rfl (gN rfl rfl (congrArg not (hb97)) (neS rfl rfl rfl (pF rfl rfl (congrArg not (hb97)) rfl (m1 rfl ?_)))))
       by_cases hb99 : r24.1 ≠ [84, 104, 101, 32, 72, 111, 117, 115, 101, 32, 109, 101, 116, 32, 97, 116, 32, 116, 119, 111, 46]
       ·have hr100 := if_p hb99 hr98
        refine gf' hb99 rfl (gf' hb99 rfl (pt hb99 rfl rfl (m1 rfl (gF rfl rfl rfl rfl (gF rfl rfl rfl rfl (pT rfl rfl rfl rfl (m1 rfl (gF rfl rfl rfl rfl (gF rfl rfl rfl rfl (pT rfl rfl rfl rfl (m1 rfl ?_)))))))))))
        refine gF rfl rfl rfl rfl (gF rfl rfl rfl rfl (pT rfl rfl rfl rfl (m1 rfl (gF rfl rfl rfl rfl (gF rfl rfl rfl rfl (pT rfl rfl rfl rfl (on ?_)))))))
        cases hr100
        intro a w hS hA
        exact ⟨hS.selH [1, 2, 3, 4] rfl, hA.cut ⟨rfl, rfl, rfl, tv⟩⟩
       ·have hr101 := if_n hb99 hr98
        refine gt' hb99 rfl (m1 rfl (gt' hb99 rfl (nt rfl rfl (pf hb99 rfl rfl (m1 rfl ?_)))))
        rcases Bool.eq_false_or_eq_true (r24.2.1) with hb102 | hb102
        ·have hr103 := if_p hb102 hr101
         refine gN rfl rfl (congrArg not (hb102)) (m1 rfl (gN rfl rfl (congrArg not (hb102)) (neI rfl rfl rfl (pF rfl rfl (congrArg not (hb102)) rfl (m1 rfl ?_)))))
         by_cases hb104 : r27.2.2 ≠ 7
         ·have hr105 := if_p hb104 hr103
          refine gf' hb104 rfl (gf' hb104 rfl (pt hb104 rfl rfl (m1 rfl (gF rfl rfl rfl rfl (gF rfl rfl rfl rfl (pT rfl rfl rfl rfl (m1 rfl (gF rfl rfl rfl rfl (gF rfl rfl rfl rfl (pT rfl rfl rfl rfl (on ?_)))))))))))
          cases hr105
          intro a w hS hA
          exact ⟨hS.selH [1, 2, 3, 4] rfl, hA.cut ⟨rfl, rfl, rfl, tv⟩⟩
         ·have hr106 := if_n hb104 hr103
          refine gt' hb104 rfl (m1 rfl (gt' hb104 rfl (neS rfl rfl rfl (pf hb104 rfl rfl (m1 rfl ?_)))))
          by_cases hb107 : r30.1 ≠ [49, 50, 64, 52, 52]
          ·have hr108 := if_p hb107 hr106
           refine gf' hb107 rfl (gf' hb107 rfl (pt hb107 rfl rfl (m1 rfl (gF rfl rfl rfl rfl (gF rfl rfl rfl rfl (pT rfl rfl rfl rfl (on ?_)))))))
           cases hr108
           intro a w hS hA
           exact ⟨hS.selH [1, 2, 3, 4] rfl, hA.cut ⟨rfl, rfl, rfl, tv⟩⟩
          ·have hr109 := if_n hb107 hr106
           refine gt' hb107 rfl (m1 rfl (gt' hb107 rfl (neI rfl rfl rfl (pf hb107 rfl rfl (m1 rfl ?_)))))
           by_cases hb110 : r33.1 ≠ 12
           ·have hr111 := if_p hb110 hr109
            refine gf' hb110 rfl (gf' hb110 rfl (pt hb110 rfl rfl (on ?_)))
            cases hr111
            intro a w hS hA
            exact ⟨hS.selH [1, 2, 3, 4] rfl, hA.cut ⟨rfl, rfl, rfl, tv⟩⟩
           ·have hr112 := if_n hb110 hr109
            refine gt' hb110 rfl (m1 rfl (gt' hb110 rfl (neI rfl rfl rfl (pf hb110 rfl rfl (on ?_)))))
            cases hr112
            intro a w hS hA
            exact ⟨hS.selH [1, 2, 3, 4] rfl, hA.cut ⟨rfl, rfl, rfl, tv⟩⟩
        ·have hr113 := if_f hb102 hr101
         refine gF rfl rfl (congrArg not (hb102)) rfl (gF rfl rfl (congrArg not (hb102)) rfl (pT rfl rfl (congrArg not (hb102)) rfl (m1 rfl (gF rfl rfl rfl rfl (gF rfl rfl rfl rfl (pT rfl rfl rfl rfl (m1 rfl (gF rfl rfl rfl rfl (gF rfl rfl rfl rfl (pT rfl rfl rfl rfl (m1 rfl ?_)))))))))))
         refine gF rfl rfl rfl rfl (gF rfl rfl rfl rfl (pT rfl rfl rfl rfl (on ?_)))
         cases hr113
         intro a w hS hA
         exact ⟨hS.selH [1, 2, 3, 4] rfl, hA.cut ⟨rfl, rfl, rfl, tv⟩⟩
      ·have hr114 := if_f hb97 hr96
       refine gF rfl rfl (congrArg not (hb97)) rfl (gF rfl rfl (congrArg not (hb97)) rfl (pT rfl rfl (congrArg not (hb97)) rfl (m1 rfl (gF rfl rfl rfl rfl (gF rfl rfl rfl rfl (pT rfl rfl rfl rfl (m1 rfl (gF rfl rfl rfl rfl (gF rfl rfl rfl rfl (pT rfl rfl rfl rfl (m1 rfl ?_)))))))))))
       refine gF rfl rfl rfl rfl (gF rfl rfl rfl rfl (pT rfl rfl rfl rfl (m1 rfl (gF rfl rfl rfl rfl (gF rfl rfl rfl rfl (pT rfl rfl rfl rfl (m1 rfl (gF rfl rfl rfl rfl (gF rfl rfl rfl rfl (pT rfl rfl rfl rfl (on ?_)))))))))))
       cases hr114
       intro a w hS hA
       exact ⟨hS.selH [1, 2, 3, 4] rfl, hA.cut ⟨rfl, rfl, rfl, tv⟩⟩
 ·rintro a w ⟨hS, hA⟩
  refine TG.ap ?_ hS hA
  refine cb rfl (fun hc118 => ?_) (fun hc118 => ?_)
  ·have hr119 := if_p hc118 hr76
   refine sq (rg (a1 rfl (on (rt_ ?_))))
   cases hr119
   intro a w hS hA
   refine ret1 hA rfl rfl ?_
   exact ⟨rfl, hS.ext⟩
  ·have hr120 := if_f hc118 hr76
   refine sk (sq (rg (m1 rfl (bu (cs := [.int .i64 2, .int .i64 0, .int .u8 0, .int .i64 0, .string (bs []), .int .i64 0]) T10.B77 rfl rfl rfl (bS (cs := [.int .i64 2, .int .i64 0, .int .u8 0, .int .i64 0, .string (bs []), .int .i64 0]) T10.E39 rfl rfl rfl rfl fun q121 K122 hq123 hK124 => ?_)))))
   have hl125 : Sl (Flat encErratum) 6 K122 (some q121) 1 ([(⟨2, 0, 0, 0, [], 0⟩ : Erratum)] : List Erratum) := Sl.litR (css := [[.int .i64 2, .int .i64 0, .int .u8 0, .int .i64 0, .string (bs []), .int .i64 0]]) (l := ([(⟨2, 0, 0, 0, [], 0⟩ : Erratum)] : List Erratum)) ⟨⟨rfl, rfl, rfl⟩, tv⟩ hq123 hK124 rfl
   have := hl125.len
   obtain ⟨r126, hx127, hr128⟩ := bd_some hr120
   refine clK C26 rfl rfl rfl rfl (fun w H hH le => w26 hH (hl9.mono (Flat.mono _) (le.at 3 rfl)) (hl125.mono (Flat.mono _) (le.at 0 rfl)) hx127) ?_
   rintro v_ K129 ⟨ad130, cap131, rfl, hl132⟩
   have := hl132.len
   refine m1 rfl (ex rfl rfl rfl (ex rfl rfl rfl (a1 rfl (a1 rfl (on (sq (rg (ldA G37 Z37 rfl rfl (sS 3 rfl hK16) rfl (m1 rfl ?_)))))))))
   obtain ⟨r133, hx134, hr135⟩ := bd_some hr128
   refine clK C13 rfl rfl rfl rfl (fun w H hH le => w13 hH r1.1 (RVolume.mono _ _ _ _ (le.at 4 rfl) hr10) (hl9.mono (Flat.mono _) (le.at 4 rfl)) (-1) hx134) ?_
   rintro v_ K136 ⟨ad137, cap138, rfl, hl139⟩
   have := hl139.len
   refine m1 rfl (ex rfl rfl rfl (ex rfl rfl rfl (a1 rfl (a1 rfl (on (sq ?_))))))
   obtain ⟨hk141, hr142⟩ := chk_some hr135
   have := lenA ([] : List Erratum) r1.2
   obtain ⟨x145, hx146, hr147⟩ := bd_some hr142
   obtain ⟨p148, rfl⟩ := hl9.adr hx146
   obtain ⟨cs149, hcs150, hq151, hr152⟩ := hl9.at hx146
   obtain rfl := hr152
   obtain ⟨hk161, hr162⟩ := chk_some hr147
   have := lenA (([] : List Erratum) ++ r1.2) ([x145] : List Erratum)
   obtain ⟨r167, hx168, hr169⟩ := bd_some hr162
   refine drG3 14 [1, 3, 8, 9] [] mixed (fun _ _ _ _ _ h => h) (by kernel_rfl) (by kernel_rfl) (by kernel_rfl) rfl (by kernel_rfl) (.nil) (DC.detA rfl rfl rfl (fun τ a w K hS hA hF => TG.pa hS hA (ldA G37 Z37 rfl rfl (sS 5 rfl hK16) rfl fin1)) (DC.turn (α := Nat) 0 (fun b140 => .slice (some ⟨b140, 0, none⟩) (([] : List Erratum).length) 0) (fun _ _ => True) (fun b140 => [(1, Own.list (some ⟨b140, 0, none⟩) 0 77 6 encErratum ([] : List Erratum))]) rfl (fun _ _ _ _ h => h) (by kernel_rfl) rfl rfl (fun a w K hS hA hF => TG.pa hS hA (bSL 1 encErratum ([] : List Erratum) (cs := []) T10.E39 rfl rfl rfl rfl rfl rfl fun b140 => finT (f := fun b140 => .slice (some ⟨b140, 0, none⟩) (([] : List Erratum).length) 0) (G := fun _ _ => True) (σ1 := fun b140 => [(1, Own.list (some ⟨b140, 0, none⟩) 0 77 6 encErratum ([] : List Erratum))]) b140 tv)) fun b140 => (DC.det (fun τ => τ = [(1, Own.list (some ⟨b140, 0, none⟩) 0 77 6 encErratum ([] : List Erratum))] ∨ τ = []) rfl (.inl rfl) (by kernel_rfl) ⟨.inl (.inr (rfl)), tv⟩ rfl rfl (fun τ hτ a w K hS hA hF => by rcases hτ with rfl | rfl <;> exact TG.pa hS hA (m1 rfl fin1)) (DC.turn (α := Option Addr × Nat) (none, 0) (fun q => .slice q.1 ((([] : List Erratum) ++ r1.2).length) q.2) (fun _ _ => True) (fun q => [(1, Own.list q.1 q.2 77 6 encErratum (([] : List Erratum) ++ r1.2))]) rfl (fun _ _ _ _ h => h) (by kernel_rfl) rfl rfl (fun a w K hS hA hF => TG.pa hS hA (apS 1 (enc := encErratum) (l := ([] : List Erratum)) (m := r1.2) T10.E39 rfl rfl rfl rfl rfl rfl hl9 6 rfl (fun _ => rfl) (fun _ => rfl) rfl hk141 fun ad143 cap144 => finT (f := fun q => .slice q.1 ((([] : List Erratum) ++ r1.2).length) q.2) (G := fun _ _ => True) (σ1 := fun q => [(1, Own.list q.1 q.2 77 6 encErratum (([] : List Erratum) ++ r1.2))]) (_, _) tv)) ?_))))
   rintro ⟨ad143, cap144⟩
   refine DC.det (fun τ => τ = [(1, Own.list ad143 cap144 77 6 encErratum (([] : List Erratum) ++ r1.2))] ∨ τ = [] ∨ τ = [(1, Own.list (some ⟨b140, 0, none⟩) 0 77 6 encErratum ([] : List Erratum))]) rfl (.inl rfl) (by kernel_rfl) ⟨.inl (.inr (.inr (rfl))), .inl (.inr (.inl rfl)), tv⟩ rfl rfl (fun τ hτ a w K hS hA hF => by rcases hτ with rfl | rfl | rfl <;> exact TG.pa hS hA (m1 rfl fin1)) (DC.det (fun τ => τ = [(1, Own.list ad143 cap144 77 6 encErratum (([] : List Erratum) ++ r1.2))] ∨ τ = [] ∨ τ = [(1, Own.list (some ⟨b140, 0, none⟩) 0 77 6 encErratum ([] : List Erratum))]) rfl (.inl rfl) (by kernel_rfl) ⟨.inl (.inr (.inr (rfl))), .inl (.inr (.inl rfl)), tv⟩ rfl rfl (fun τ hτ a w K hS hA hF => by rcases hτ with rfl | rfl | rfl <;> exact TG.pa hS hA (iaP U39 Z77 rfl rfl rfl rfl (lt_of hx146) fin1)) (DC.det (fun τ => τ = [(1, Own.list ad143 cap144 77 6 encErratum (([] : List Erratum) ++ r1.2))] ∨ τ = [] ∨ τ = [(1, Own.list (some ⟨b140, 0, none⟩) 0 77 6 encErratum ([] : List Erratum))]) rfl (.inl rfl) (by kernel_rfl) ⟨.inl (.inr (.inr (rfl))), .inl (.inr (.inl rfl)), tv⟩ rfl rfl (fun τ hτ a w K hS hA hF => by rcases hτ with rfl | rfl | rfl <;> exact TG.pa hS hA (ldA G77 Z77 rfl rfl (sS 6 rfl hq151) rfl fin1)) ?_))
   refine DC.und (α := Option Addr × Nat) (none, 0) (fun q => .slice q.1 1 q.2) (fun (q : Option Addr × Nat) K => Sl (Flat encErratum) 6 K q.1 q.2 ([x145] : List Erratum)) (fun τ => τ = [(1, Own.list ad143 cap144 77 6 encErratum (([] : List Erratum) ++ r1.2))] ∨ τ = [] ∨ τ = [(1, Own.list (some ⟨b140, 0, none⟩) 0 77 6 encErratum ([] : List Erratum))]) rfl (.inl rfl) (by kernel_rfl) ⟨.inl (.inr (.inr (rfl))), .inl (.inr (.inl rfl)), tv⟩ (fun _ _ _ h x => x.mono (Flat.mono _) h) (by kernel_rfl) rfl rfl (fun τ hτ a w K hS hA hF => by rcases hτ with rfl | rfl | rfl <;> exact TG.pa hS hA (bS (cs := [.int .i64 x145.number, .int .i64 x145.day, .int .u8 x145.kind, .int .i64 x145.anchor, .string (bs x145.text), .int .i64 x145.new_]) T10.E39 rfl rfl rfl rfl fun q153 K154 hq155 hK156 => by
     have hl157 : Sl (Flat encErratum) 6 K154 (some q153) 1 ([x145] : List Erratum) := Sl.litR (css := [[.int .i64 x145.number, .int .i64 x145.day, .int .u8 x145.kind, .int .i64 x145.anchor, .string (bs x145.text), .int .i64 x145.new_]]) (l := ([x145] : List Erratum)) ⟨⟨rfl, rfl, rfl⟩, tv⟩ hq155 hK156 rfl
     have := hl157.len
     exact finU (f := fun q => .slice q.1 1 q.2) (G := (fun (q : Option Addr × Nat) K => Sl (Flat encErratum) 6 K q.1 q.2 ([x145] : List Erratum))) (_, _) (fun _ _ _ h x => x.mono (Flat.mono _) h) hl157)) ?_
   rintro ⟨ad159, cap160⟩
   refine DC.turn (α := Option Addr × Nat) (none, 0) (fun q => .slice q.1 (((([] : List Erratum) ++ r1.2) ++ ([x145] : List Erratum)).length) q.2) (fun _ _ => True) (fun q => [(1, Own.list q.1 q.2 77 6 encErratum ((([] : List Erratum) ++ r1.2) ++ ([x145] : List Erratum)))]) rfl (fun _ _ _ _ h => h) (by kernel_rfl) rfl rfl (fun a w K hS hA hF => TG.pa hS hA (apS 1 (enc := encErratum) (l := (([] : List Erratum) ++ r1.2)) (m := ([x145] : List Erratum)) T10.E39 rfl rfl rfl rfl rfl rfl (hF.1 rfl) 0 rfl (fun _ => rfl) (fun _ => rfl) rfl hk161 fun ad163 cap164 => finT (f := fun q => .slice q.1 (((([] : List Erratum) ++ r1.2) ++ ([x145] : List Erratum)).length) q.2) (G := fun _ _ => True) (σ1 := fun q => [(1, Own.list q.1 q.2 77 6 encErratum ((([] : List Erratum) ++ r1.2) ++ ([x145] : List Erratum)))]) (_, _) tv)) ?_
   rintro ⟨ad163, cap164⟩
   refine DC.turn (α := Option Addr × Nat) (none, 0) (fun q => .tuple [.slice q.1 r167.1.length q.2, .int .i64 r167.2].toArray) (fun (q : Option Addr × Nat) K => Sl (Flat encParagraph) 2 K q.1 q.2 r167.1) (fun _ => []) rfl (fun _ _ _ h x => x.mono (Flat.mono _) h) (by kernel_rfl) rfl rfl (fun a w K hS hA hF => TG.pa hS hA (TG.still 1 rfl (fun _ => rfl) fun K165 hl166 => clK C13 rfl rfl rfl rfl (fun w H hH le => w13 hH r1.1 (RVolume.mono _ _ _ _ (le.at 7 rfl) hr10) (hl166.mono (Flat.mono _) (le.at 0 rfl)) 0 hx168) (by
     rintro v_ K170 ⟨ad171, cap172, rfl, hl173⟩
     exact stF (σ1 := fun _ => []) (f := fun q => .tuple [.slice q.1 r167.1.length q.2, .int .i64 r167.2].toArray) (G := (fun (q : Option Addr × Nat) K => Sl (Flat encParagraph) 2 K q.1 q.2 r167.1)) (ad171, cap172) (fun _ _ _ h x => x.mono (Flat.mono _) h) hl173))) ?_
   rintro ⟨ad175, cap176⟩
   refine DC.und () (fun _ => .tuple [.slice ad175 r167.1.length cap176, .int .i64 r167.2].toArray) (fun _ K => Sl (Flat encParagraph) 2 K ad175 cap176 r167.1) (fun τ => τ = []) rfl rfl (by kernel_rfl) ⟨.inr (by kernel_rfl), .inr (by kernel_rfl), .inr (by kernel_rfl), .inr (by kernel_rfl), tv⟩ (fun _ _ _ h x => x.mono (Flat.mono _) h) (by kernel_rfl) rfl rfl (fun τ hτ a w K hS hA hF => by subst hτ <;> exact TG.pa hS hA (m1 rfl (finF (f := fun _ => .tuple [.slice ad175 r167.1.length cap176, .int .i64 r167.2].toArray) (G := fun _ K => Sl (Flat encParagraph) 2 K ad175 cap176 r167.1) () (hF.1 rfl)))) fun _ => (DC.und () (fun _ => .slice ad175 r167.1.length cap176) (fun _ K => Sl (Flat encParagraph) 2 K ad175 cap176 r167.1) (fun τ => τ = []) rfl rfl (by kernel_rfl) ⟨.inr (by kernel_rfl), .inr (by kernel_rfl), .inr (by kernel_rfl), .inr (by kernel_rfl), tv⟩ (fun _ _ _ h x => x.mono (Flat.mono _) h) (by kernel_rfl) rfl rfl (fun τ hτ a w K hS hA hF => by subst hτ <;> exact TG.pa hS hA (ex rfl rfl rfl (finF (f := fun _ => .slice ad175 r167.1.length cap176) (G := fun _ K => Sl (Flat encParagraph) 2 K ad175 cap176 r167.1) () (hF.1 rfl)))) fun _ => (dc rfl (by kernel_rfl) ⟨.inr (by kernel_rfl), .inr (by kernel_rfl), .inr (by kernel_rfl), .inr (by kernel_rfl), tv⟩ rfl rfl (ex rfl rfl rfl fin1) (DC.und () (fun _ => .slice ad175 r167.1.length cap176) (fun _ K => Sl (Flat encParagraph) 2 K ad175 cap176 r167.1) (fun τ => τ = []) rfl rfl (by kernel_rfl) ⟨.inr (by kernel_rfl), .inr (by kernel_rfl), .inr (by kernel_rfl), .inr (by kernel_rfl), tv⟩ (fun _ _ _ h x => x.mono (Flat.mono _) h) (by kernel_rfl) rfl rfl (fun τ hτ a w K hS hA hF => by subst hτ <;> exact TG.pa hS hA (a1 rfl (finF (f := fun _ => .slice ad175 r167.1.length cap176) (G := fun _ K => Sl (Flat encParagraph) 2 K ad175 cap176 r167.1) () (hF.1 rfl)))) fun _ => (DC.nil fun K180 hF => ?_))))
   obtain ⟨hu179, hu178, hu177, hu174, _, hu158, _, _, _⟩ := hF
   have := hu158.len
   have := hu174.len
   refine a1 rfl (on (sq ?_))
   have := lenA ([] : List Erratum) r1.2
   obtain ⟨hk207, hr208⟩ := chk_some hr169
   have := lenA (([] : List Erratum) ++ r1.2) ([(⟨4, 59, 0, 20, [120], 0⟩ : Erratum)] : List Erratum)
   obtain ⟨r213, hx214, hr215⟩ := bd_some hr208
   refine drG3 12 [1, 3, 6, 7] [] mixed (fun _ _ _ _ _ h => h) (by kernel_rfl) (by kernel_rfl) (by kernel_rfl) rfl (by kernel_rfl) (.nil) (DC.detA rfl rfl rfl (fun τ a w K hS hA hF => TG.pa hS hA (ldA G37 Z37 rfl rfl (sS 6 rfl hK16) rfl fin1)) (DC.turn (α := Nat) 0 (fun b196 => .slice (some ⟨b196, 0, none⟩) (([] : List Erratum).length) 0) (fun _ _ => True) (fun b196 => [(2, Own.list (some ⟨b196, 0, none⟩) 0 77 6 encErratum ([] : List Erratum))]) rfl (fun _ _ _ _ h => h) (by kernel_rfl) rfl rfl (fun a w K hS hA hF => TG.pa hS hA (bSL 2 encErratum ([] : List Erratum) (cs := []) T10.E39 rfl rfl rfl rfl rfl rfl fun b196 => finT (f := fun b196 => .slice (some ⟨b196, 0, none⟩) (([] : List Erratum).length) 0) (G := fun _ _ => True) (σ1 := fun b196 => [(2, Own.list (some ⟨b196, 0, none⟩) 0 77 6 encErratum ([] : List Erratum))]) b196 tv)) fun b196 => (DC.det (fun τ => τ = [(2, Own.list (some ⟨b196, 0, none⟩) 0 77 6 encErratum ([] : List Erratum))] ∨ τ = []) rfl (.inl rfl) (by kernel_rfl) ⟨.inl (.inr (rfl)), tv⟩ rfl rfl (fun τ hτ a w K hS hA hF => by rcases hτ with rfl | rfl <;> exact TG.pa hS hA (m1 rfl fin1)) (DC.turn (α := Option Addr × Nat) (none, 0) (fun q => .slice q.1 ((([] : List Erratum) ++ r1.2).length) q.2) (fun _ _ => True) (fun q => [(2, Own.list q.1 q.2 77 6 encErratum (([] : List Erratum) ++ r1.2))]) rfl (fun _ _ _ _ h => h) (by kernel_rfl) rfl rfl (fun a w K hS hA hF => TG.pa hS hA (apS 2 (enc := encErratum) (l := ([] : List Erratum)) (m := r1.2) T10.E39 rfl rfl rfl rfl rfl rfl hl9 7 rfl (fun _ => rfl) (fun _ => rfl) rfl hk141 fun ad197 cap198 => finT (f := fun q => .slice q.1 ((([] : List Erratum) ++ r1.2).length) q.2) (G := fun _ _ => True) (σ1 := fun q => [(2, Own.list q.1 q.2 77 6 encErratum (([] : List Erratum) ++ r1.2))]) (_, _) tv)) ?_))))
   rintro ⟨ad197, cap198⟩
   refine DC.det (fun τ => τ = [(2, Own.list ad197 cap198 77 6 encErratum (([] : List Erratum) ++ r1.2))] ∨ τ = [] ∨ τ = [(2, Own.list (some ⟨b196, 0, none⟩) 0 77 6 encErratum ([] : List Erratum))]) rfl (.inl rfl) (by kernel_rfl) ⟨.inl (.inr (.inr (rfl))), .inl (.inr (.inl rfl)), tv⟩ rfl rfl (fun τ hτ a w K hS hA hF => by rcases hτ with rfl | rfl | rfl <;> exact TG.pa hS hA (bu (cs := [.int .i64 4, .int .i64 59, .int .u8 0, .int .i64 20, .string (bs [120]), .int .i64 0]) T10.B77 rfl rfl rfl fin1)) ?_
   refine DC.und (α := Option Addr × Nat) (none, 0) (fun q => .slice q.1 1 q.2) (fun (q : Option Addr × Nat) K => Sl (Flat encErratum) 6 K q.1 q.2 ([(⟨4, 59, 0, 20, [120], 0⟩ : Erratum)] : List Erratum)) (fun τ => τ = [(2, Own.list ad197 cap198 77 6 encErratum (([] : List Erratum) ++ r1.2))] ∨ τ = [] ∨ τ = [(2, Own.list (some ⟨b196, 0, none⟩) 0 77 6 encErratum ([] : List Erratum))]) rfl (.inl rfl) (by kernel_rfl) ⟨.inl (.inr (.inr (rfl))), .inl (.inr (.inl rfl)), tv⟩ (fun _ _ _ h x => x.mono (Flat.mono _) h) (by kernel_rfl) rfl rfl (fun τ hτ a w K hS hA hF => by rcases hτ with rfl | rfl | rfl <;> exact TG.pa hS hA (bS (cs := [.int .i64 4, .int .i64 59, .int .u8 0, .int .i64 20, .string (bs [120]), .int .i64 0]) T10.E39 rfl rfl rfl rfl fun q199 K200 hq201 hK202 => by
     have hl203 : Sl (Flat encErratum) 6 K200 (some q199) 1 ([(⟨4, 59, 0, 20, [120], 0⟩ : Erratum)] : List Erratum) := Sl.litR (css := [[.int .i64 4, .int .i64 59, .int .u8 0, .int .i64 20, .string (bs [120]), .int .i64 0]]) (l := ([(⟨4, 59, 0, 20, [120], 0⟩ : Erratum)] : List Erratum)) ⟨⟨rfl, rfl, rfl⟩, tv⟩ hq201 hK202 rfl
     have := hl203.len
     exact finU (f := fun q => .slice q.1 1 q.2) (G := (fun (q : Option Addr × Nat) K => Sl (Flat encErratum) 6 K q.1 q.2 ([(⟨4, 59, 0, 20, [120], 0⟩ : Erratum)] : List Erratum))) (_, _) (fun _ _ _ h x => x.mono (Flat.mono _) h) hl203)) ?_
   rintro ⟨ad205, cap206⟩
   refine DC.turn (α := Option Addr × Nat) (none, 0) (fun q => .slice q.1 (((([] : List Erratum) ++ r1.2) ++ ([(⟨4, 59, 0, 20, [120], 0⟩ : Erratum)] : List Erratum)).length) q.2) (fun _ _ => True) (fun q => [(2, Own.list q.1 q.2 77 6 encErratum ((([] : List Erratum) ++ r1.2) ++ ([(⟨4, 59, 0, 20, [120], 0⟩ : Erratum)] : List Erratum)))]) rfl (fun _ _ _ _ h => h) (by kernel_rfl) rfl rfl (fun a w K hS hA hF => TG.pa hS hA (apS 2 (enc := encErratum) (l := (([] : List Erratum) ++ r1.2)) (m := ([(⟨4, 59, 0, 20, [120], 0⟩ : Erratum)] : List Erratum)) T10.E39 rfl rfl rfl rfl rfl rfl (hF.1 rfl) 0 rfl (fun _ => rfl) (fun _ => rfl) rfl hk207 fun ad209 cap210 => finT (f := fun q => .slice q.1 (((([] : List Erratum) ++ r1.2) ++ ([(⟨4, 59, 0, 20, [120], 0⟩ : Erratum)] : List Erratum)).length) q.2) (G := fun _ _ => True) (σ1 := fun q => [(2, Own.list q.1 q.2 77 6 encErratum ((([] : List Erratum) ++ r1.2) ++ ([(⟨4, 59, 0, 20, [120], 0⟩ : Erratum)] : List Erratum)))]) (_, _) tv)) ?_
   rintro ⟨ad209, cap210⟩
   refine DC.turn (α := Option Addr × Nat) (none, 0) (fun q => .tuple [.slice q.1 r213.1.length q.2, .int .i64 r213.2].toArray) (fun (q : Option Addr × Nat) K => Sl (Flat encParagraph) 2 K q.1 q.2 r213.1) (fun _ => []) rfl (fun _ _ _ h x => x.mono (Flat.mono _) h) (by kernel_rfl) rfl rfl (fun a w K hS hA hF => TG.pa hS hA (TG.still 2 rfl (fun _ => rfl) fun K211 hl212 => clK C13 rfl rfl rfl rfl (fun w H hH le => w13 hH r1.1 (RVolume.mono _ _ _ _ (le.at 8 rfl) hr10) (hl212.mono (Flat.mono _) (le.at 0 rfl)) 0 hx214) (by
     rintro v_ K216 ⟨ad217, cap218, rfl, hl219⟩
     exact stF (σ1 := fun _ => []) (f := fun q => .tuple [.slice q.1 r213.1.length q.2, .int .i64 r213.2].toArray) (G := (fun (q : Option Addr × Nat) K => Sl (Flat encParagraph) 2 K q.1 q.2 r213.1)) (ad217, cap218) (fun _ _ _ h x => x.mono (Flat.mono _) h) hl219))) ?_
   rintro ⟨ad221, cap222⟩
   refine DC.und () (fun _ => .tuple [.slice ad221 r213.1.length cap222, .int .i64 r213.2].toArray) (fun _ K => Sl (Flat encParagraph) 2 K ad221 cap222 r213.1) (fun τ => τ = []) rfl rfl (by kernel_rfl) ⟨.inr (by kernel_rfl), .inr (by kernel_rfl), .inr (by kernel_rfl), .inr (by kernel_rfl), tv⟩ (fun _ _ _ h x => x.mono (Flat.mono _) h) (by kernel_rfl) rfl rfl (fun τ hτ a w K hS hA hF => by subst hτ <;> exact TG.pa hS hA (m1 rfl (finF (f := fun _ => .tuple [.slice ad221 r213.1.length cap222, .int .i64 r213.2].toArray) (G := fun _ K => Sl (Flat encParagraph) 2 K ad221 cap222 r213.1) () (hF.1 rfl)))) fun _ => (DC.und () (fun _ => .slice ad221 r213.1.length cap222) (fun _ K => Sl (Flat encParagraph) 2 K ad221 cap222 r213.1) (fun τ => τ = []) rfl rfl (by kernel_rfl) ⟨.inr (by kernel_rfl), .inr (by kernel_rfl), .inr (by kernel_rfl), .inr (by kernel_rfl), tv⟩ (fun _ _ _ h x => x.mono (Flat.mono _) h) (by kernel_rfl) rfl rfl (fun τ hτ a w K hS hA hF => by subst hτ <;> exact TG.pa hS hA (ex rfl rfl rfl (finF (f := fun _ => .slice ad221 r213.1.length cap222) (G := fun _ K => Sl (Flat encParagraph) 2 K ad221 cap222 r213.1) () (hF.1 rfl)))) fun _ => (dc rfl (by kernel_rfl) ⟨.inr (by kernel_rfl), .inr (by kernel_rfl), .inr (by kernel_rfl), .inr (by kernel_rfl), tv⟩ rfl rfl (ex rfl rfl rfl fin1) (DC.und () (fun _ => .slice ad221 r213.1.length cap222) (fun _ K => Sl (Flat encParagraph) 2 K ad221 cap222 r213.1) (fun τ => τ = []) rfl rfl (by kernel_rfl) ⟨.inr (by kernel_rfl), .inr (by kernel_rfl), .inr (by kernel_rfl), .inr (by kernel_rfl), tv⟩ (fun _ _ _ h x => x.mono (Flat.mono _) h) (by kernel_rfl) rfl rfl (fun τ hτ a w K hS hA hF => by subst hτ <;> exact TG.pa hS hA (a1 rfl (finF (f := fun _ => .slice ad221 r213.1.length cap222) (G := fun _ K => Sl (Flat encParagraph) 2 K ad221 cap222 r213.1) () (hF.1 rfl)))) fun _ => (DC.nil fun K226 hF => ?_))))
   obtain ⟨hu225, hu224, hu223, hu220, _, hu204, _, _, _⟩ := hF
   have := hu204.len
   have := hu220.len
   refine a1 rfl (on (sq (rg (ldA G37 Z37 rfl rfl (sS 6 rfl hK16) rfl (m1 rfl ?_)))))
   obtain ⟨r227, hx228, hr229⟩ := bd_some hr215
   refine clS C20 rfl rfl rfl rfl (fun w H hH le => w20 hH (hg.mono (le.at 8 rfl)) r1.1 (RVolume.mono _ _ _ _ (le.at 7 rfl) hr10) (hl9.mono (Flat.mono _) (le.at 7 rfl)) 20 0 0 hx228) (m1 rfl (ex rfl rfl rfl (ex rfl rfl rfl (a1 rfl (a1 rfl (on (sq (rg (ldA G37 Z37 rfl rfl (sS 6 rfl hK16) rfl (m1 rfl ?_))))))))))
   obtain ⟨r230, hx231, hr232⟩ := bd_some hr229
   refine clS C20 rfl rfl rfl rfl (fun w H hH le => w20 hH (hg.mono (le.at 8 rfl)) r1.1 (RVolume.mono _ _ _ _ (le.at 7 rfl) hr10) (hl9.mono (Flat.mono _) (le.at 7 rfl)) 12 3 0 hx231) (m1 rfl (ex rfl rfl rfl (ex rfl rfl rfl (a1 rfl (a1 rfl (on (sq (rg (ldA G37 Z37 rfl rfl (sS 6 rfl hK16) rfl (m1 rfl ?_))))))))))
   obtain ⟨r233, hx234, hr235⟩ := bd_some hr232
   refine clS C21 rfl rfl rfl rfl (fun w H hH le => w21 hH (hg.mono (le.at 8 rfl)) r1.1 (RVolume.mono _ _ _ _ (le.at 7 rfl) hr10) (hl9.mono (Flat.mono _) (le.at 7 rfl)) [118, 111, 108, 46, 32, 51, 44, 32, 99, 111, 108, 46, 32, 50, 44, 32, 108, 46, 32, 51] hx234) (m1 rfl (ex rfl rfl rfl (ex rfl rfl rfl (ex rfl rfl rfl (a1 rfl (a1 rfl (a1 rfl (on (sq (rg (ldA G37 Z37 rfl rfl (sS 6 rfl hK16) rfl ?_)))))))))))
   refine m1 rfl ?_
   obtain ⟨r236, hx237, hr238⟩ := bd_some hr235
   refine clS C21 rfl rfl rfl rfl (fun w H hH le => w21 hH (hg.mono (le.at 8 rfl)) r1.1 (RVolume.mono _ _ _ _ (le.at 7 rfl) hr10) (hl9.mono (Flat.mono _) (le.at 7 rfl)) [118, 111, 108, 46, 32, 51, 44, 32, 99, 111, 108, 46, 32, 48, 50, 44, 32, 108, 46, 32, 49] hx237) (m1 rfl (ex rfl rfl rfl (ex rfl rfl rfl (ex rfl rfl rfl (a1 rfl (a1 rfl (a1 rfl (on (sq (rg (ldA G37 Z37 rfl rfl (sS 6 rfl hK16) rfl ?_)))))))))))
   refine m1 rfl ?_
   obtain ⟨r239, hx240, hr241⟩ := bd_some hr238
   refine clS C21 rfl rfl rfl rfl (fun w H hH le => w21 hH (hg.mono (le.at 8 rfl)) r1.1 (RVolume.mono _ _ _ _ (le.at 7 rfl) hr10) (hl9.mono (Flat.mono _) (le.at 7 rfl)) [118, 111, 108, 46, 32, 52, 44, 32, 52, 48, 44, 32, 112, 97, 114, 46, 32, 50] hx240) (m1 rfl (ex rfl rfl rfl (ex rfl rfl rfl (ex rfl rfl rfl (a1 rfl (a1 rfl (a1 rfl (on (sq (rg (ldA G37 Z37 rfl rfl (sS 6 rfl hK16) rfl ?_)))))))))))
   refine al 3 (cs := [.int .i64 0, .int .i64 0, .int .i64 0, .int .i64 0, .slice none 0 0]) Tryz.zeroValue37 rfl rfl fun b242 => (sto 3 (cs := [.int .i64 r1.1.number, .int .i64 r1.1.bound, .int .i64 r1.1.height, .int .i64 r1.1.width, .slice ad11 r1.1.parts.length cap12]) Z37 rfl rfl rfl rfl rfl rfl rfl (on (sq (rg (bu (cs := [.int .i64 1, .string (bs [97])]) T10.B67 rfl rfl rfl (bu (cs := [.int .i64 1, .string (bs [97])]) T10.B67 rfl rfl rfl (bS (cs := [.int .i64 1, .string (bs [97]), .int .i64 1, .string (bs [97])]) T10.E31 rfl rfl rfl rfl fun q243 K244 hq245 hK246 => ?_)))))))
   have hl247 : Sl (Flat encParagraph) 2 K244 (some q243) 2 ([(⟨1, [97]⟩ : Paragraph), (⟨1, [97]⟩ : Paragraph)] : List Paragraph) := Sl.litR (css := [[.int .i64 1, .string (bs [97])], [.int .i64 1, .string (bs [97])]]) (l := ([(⟨1, [97]⟩ : Paragraph), (⟨1, [97]⟩ : Paragraph)] : List Paragraph)) ⟨⟨rfl, rfl, rfl⟩, ⟨rfl, rfl, rfl⟩, tv⟩ hq245 hK246 rfl
   have := hl247.len
   refine bu (cs := [.int .i64 40, .slice (some q243) 2 2]) T10.B79 rfl rfl rfl (bS (cs := [.int .i64 40, .slice (some q243) 2 2]) T10.E35 rfl rfl rfl rfl fun q248 K249 hq250 hK251 => (TG.pack (fun K => Sl (RPart) 2 K (some q248) 1 ([(⟨40, ([(⟨1, [97]⟩ : Paragraph), (⟨1, [97]⟩ : Paragraph)] : List Paragraph)⟩ : Part)] : List Part)) (fun H le => Sl.litR (css := [[.int .i64 40, .slice (some q243) 2 2]]) (l := ([(⟨40, ([(⟨1, [97]⟩ : Paragraph), (⟨1, [97]⟩ : Paragraph)] : List Paragraph)⟩ : Part)] : List Part)) ⟨⟨rfl, rfl, ⟨_, _, rfl, (hl247.mono (Flat.mono _) (le.at 1 rfl))⟩⟩, tv⟩ hq250 (hK251.mono (le.at 0 rfl)) rfl) fun K253 hl252 => ?_))
   have := hl252.len
   refine fb 4 U37 rfl rfl rfl rfl Z35 (sto 3 (cs := [.slice (some q248) 1 1]) Z35 rfl rfl rfl rfl rfl rfl rfl (on (sq (rg (ldA G37 Z37 rfl rfl (sS 9 rfl hK16) rfl (al 4 (cs := [.int .i64 0, .int .i64 0, .int .i64 0, .int .i64 0, .slice none 0 0]) Tryz.zeroValue37 rfl rfl fun b254 => (sto 4 (cs := [.int .i64 r1.1.number, .int .i64 r1.1.bound, .int .i64 r1.1.height, .int .i64 r1.1.width, .slice ad11 r1.1.parts.length cap12]) Z37 rfl rfl rfl rfl rfl rfl rfl (on (sq (rg (fb 1 U37 rfl rfl rfl rfl Z3 ?_)))))))))))
   refine sto 4 (cs := [.int .i64 43]) Z3 rfl rfl rfl rfl rfl rfl rfl (on (sq ?_))
   obtain ⟨t309, hx310, hr311⟩ := bd_some hr241
   refine jn (fun a w => St M W H [K253, K249, K244, K226, K180, K136, K129, K122, K20, K15, K4, H] [(4, cel b254 37 [.int .i64 r1.1.number, .int .i64 43, .int .i64 r1.1.height, .int .i64 r1.1.width, .slice ad11 r1.1.parts.length cap12]), (3, cel b242 37 [.int .i64 r1.1.number, .int .i64 r1.1.bound, .int .i64 r1.1.height, .int .i64 r1.1.width, .slice (some q248) 1 1])] w ∧ Has [] 255 a [(0, .bool t309)]) ?_ ?_
   ·refine rg (m1 rfl (eqI rfl rfl rfl (m1 rfl ?_)))
    by_cases hb312 : r126.2 = 6
    ·have hr313 := if_p hb312 hx310
     refine gt hb312 rfl (m1 rfl (gt hb312 rfl (eqI rfl rfl rfl (pt hb312 rfl rfl (m1 rfl ?_)))))
     by_cases hb314 : r133.2 = 2
     ·have hr315 := if_p hb314 hr313
      refine gt hb314 rfl (m1 rfl (gt hb314 rfl (eqI rfl rfl rfl (pt hb314 rfl rfl (m1 rfl ?_)))))
      by_cases hb316 : r167.2 = 6
      ·have hr317 := if_p hb316 hr315
       refine gt hb316 rfl (m1 rfl (gt hb316 rfl (eqI rfl rfl rfl (pt hb316 rfl rfl (m1 rfl ?_)))))
       by_cases hb318 : r213.2 = 7
       ·have hr319 := if_p hb318 hr317
        refine gt hb318 rfl (m1 rfl (gt hb318 rfl (eqI rfl rfl rfl (pt hb318 rfl rfl (m1 rfl ?_)))))
        by_cases hb320 : r227.2 = 7
        ·have hr321 := if_p hb320 hr319
         refine gt hb320 rfl (m1 rfl (gt hb320 rfl (eqI rfl rfl rfl (pt hb320 rfl rfl (m1 rfl ?_)))))
         by_cases hb322 : r230.2 = 2
         ·have hr323 := if_p hb322 hr321
          refine gt hb322 rfl (m1 rfl (gt hb322 rfl (eqI rfl rfl rfl (pt hb322 rfl rfl (m1 rfl ?_)))))
          by_cases hb324 : r233.2.2 = 7
          ·have hr325 := if_p hb324 hr323
           refine gt hb324 rfl (m1 rfl (gt hb324 rfl (eqI rfl rfl rfl (pt hb324 rfl rfl (m1 rfl ?_)))))
           by_cases hb326 : r236.2.2 = 4
           ·have hr327 := if_p hb326 hr325
            refine gt hb326 rfl (m1 rfl (gt hb326 rfl (eqI rfl rfl rfl (pt hb326 rfl rfl (m1 rfl ?_)))))
            by_cases hb328 : r239.2.2 = 7
            ·have hr329 := if_p hb328 hr327
             refine gt hb328 rfl (ldA G37 Z37 rfl rfl (sO 3 rfl) rfl (gt hb328 rfl ?_))
             obtain ⟨r330, hx331, hr332⟩ := bd_some hr329
             refine clS C27 rfl rfl rfl rfl (fun w H hH le => w27 hH (⟨r1.1.number, r1.1.bound, r1.1.height, r1.1.width, ([(⟨40, ([(⟨1, [97]⟩ : Paragraph), (⟨1, [97]⟩ : Paragraph)] : List Paragraph)⟩ : Part)] : List Part)⟩ : Volume) ⟨_, _, rfl, (hl252.mono (RPart.mono) (le.at 0 rfl))⟩ hx331) (gt hb328 rfl (eqI rfl rfl rfl (pt hb328 rfl rfl (m1 rfl ?_))))
             by_cases hb333 : r330 = 6
             ·have hr334 := if_p hb333 hr332
              refine gt hb333 rfl (ldA G37 Z37 rfl rfl (sO 4 rfl) rfl (gt hb333 rfl ?_))
              obtain ⟨r335, hx336, hr337⟩ := bd_some hr334
              refine clS C27 rfl rfl rfl rfl (fun w H hH le => w27 hH (⟨r1.1.number, 43, r1.1.height, r1.1.width, r1.1.parts⟩ : Volume) ⟨_, _, rfl, (hl13.mono (RPart.mono) (le.at 10 rfl))⟩ hx336) (gt hb333 rfl (eqI rfl rfl rfl (pt hb333 rfl rfl (m1 rfl ?_))))
              by_cases hb338 : r335 = 1
              ·have hr339 := if_p hb338 hr337
               refine gt hb338 rfl ?_
               obtain ⟨hk340, hr341⟩ := chk_some hr339
               refine mkSR (⟨0, ([] : List Paragraph)⟩ : Part) 0 rfl (RPart.mono) T10.E35 rfl rfl rfl (fun _ => ⟨_, _, rfl, (Sl.nil _ _ _ _ _ (by decide))⟩) rfl rfl rfl rfl hk340 fun ad342 cap343 K344 hl345 => ?_
               have := hl345.len
               refine gt hb338 rfl (bu (cs := [.int .i64 0, .int .i64 0, .int .i64 0, .int .i64 0, .slice ad342 ((List.replicate 7 (⟨0, ([] : List Paragraph)⟩ : Part)).length) cap343]) T10.B37 rfl rfl rfl (gt hb338 rfl ?_))
               obtain ⟨r346, hx347, hr348⟩ := bd_some hr341
               refine clS C27 rfl rfl rfl rfl (fun w H hH le => w27 hH (⟨0, 0, 0, 0, (List.replicate 7 (⟨0, ([] : List Paragraph)⟩ : Part))⟩ : Volume) ⟨_, _, rfl, (hl345.mono (RPart.mono) (le.at 0 rfl))⟩ hx347) (gt hb338 rfl (eqI rfl rfl rfl (pt hb338 rfl rfl (m1 rfl ?_))))
               by_cases hb349 : r346 = 3
               ·have hr350 := if_p hb349 hr348
                refine gt hb349 rfl ?_
                obtain ⟨r351, hx352, hr353⟩ := bd_some hr350
                refine clS C12 rfl rfl rfl rfl (fun w H hH le => w12 hH (hg.mono (le.at 12 rfl))  hx352) (pt hb349 rfl rfl (a1 rfl (on ?_)))
                cases hr353
                intro a w hS hA
                exact ⟨hS.selH [1, 2, 3, 4, 5, 6, 7, 8, 9, 10, 11, 12] rfl, hA.cut ⟨rfl, tv⟩⟩
               ·have hr354 := if_n hb349 hr348
                refine gf hb349 rfl (pf hb349 rfl rfl (a1 rfl (on ?_)))
                cases hr354
                intro a w hS hA
                exact ⟨hS.selH [1, 2, 3, 4, 5, 6, 7, 8, 9, 10, 11, 12] rfl, hA.cut ⟨rfl, tv⟩⟩
              ·have hr355 := if_n hb338 hr337
               refine gf hb338 rfl (gf hb338 rfl (gf hb338 rfl (gf hb338 rfl (pf hb338 rfl rfl (m1 rfl (gF rfl rfl rfl rfl (pF rfl rfl rfl rfl (a1 rfl (on ?_)))))))))
               cases hr355
               exact cu ⟨rfl, tv⟩
             ·have hr356 := if_n hb333 hr332
              refine gf hb333 rfl (gf hb333 rfl (gf hb333 rfl (pf hb333 rfl rfl (m1 rfl (gF rfl rfl rfl rfl (gF rfl rfl rfl rfl (gF rfl rfl rfl rfl (gF rfl rfl rfl rfl (pF rfl rfl rfl rfl (m1 rfl (gF rfl rfl rfl rfl ?_)))))))))))
              refine pF rfl rfl rfl rfl (a1 rfl (on ?_))
              cases hr356
              exact cu ⟨rfl, tv⟩
            ·have hr357 := if_n hb328 hr327
             refine gf hb328 rfl (gf hb328 rfl (gf hb328 rfl (pf hb328 rfl rfl (m1 rfl (gF rfl rfl rfl rfl (gF rfl rfl rfl rfl (gF rfl rfl rfl rfl (pF rfl rfl rfl rfl (m1 rfl (gF rfl rfl rfl rfl (gF rfl rfl rfl rfl ?_)))))))))))
             refine gF rfl rfl rfl rfl (gF rfl rfl rfl rfl (pF rfl rfl rfl rfl (m1 rfl (gF rfl rfl rfl rfl (pF rfl rfl rfl rfl (a1 rfl (on ?_)))))))
             cases hr357
             exact cu ⟨rfl, tv⟩
           ·have hr358 := if_n hb326 hr325
            refine gf hb326 rfl (gf hb326 rfl (pf hb326 rfl rfl (m1 rfl (gF rfl rfl rfl rfl (gF rfl rfl rfl rfl (gF rfl rfl rfl rfl (pF rfl rfl rfl rfl (m1 rfl (gF rfl rfl rfl rfl (gF rfl rfl rfl rfl (gF rfl rfl rfl rfl ?_)))))))))))
            refine pF rfl rfl rfl rfl (m1 rfl (gF rfl rfl rfl rfl (gF rfl rfl rfl rfl (gF rfl rfl rfl rfl (gF rfl rfl rfl rfl (pF rfl rfl rfl rfl (m1 rfl (gF rfl rfl rfl rfl (pF rfl rfl rfl rfl (a1 rfl (on ?_)))))))))))
            cases hr358
            exact cu ⟨rfl, tv⟩
          ·have hr359 := if_n hb324 hr323
           refine gf hb324 rfl (gf hb324 rfl (pf hb324 rfl rfl (m1 rfl (gF rfl rfl rfl rfl (gF rfl rfl rfl rfl (pF rfl rfl rfl rfl (m1 rfl (gF rfl rfl rfl rfl (gF rfl rfl rfl rfl (gF rfl rfl rfl rfl (pF rfl rfl rfl rfl ?_)))))))))))
           refine m1 rfl (gF rfl rfl rfl rfl (gF rfl rfl rfl rfl (gF rfl rfl rfl rfl (pF rfl rfl rfl rfl (m1 rfl (gF rfl rfl rfl rfl (gF rfl rfl rfl rfl (gF rfl rfl rfl rfl (gF rfl rfl rfl rfl (pF rfl rfl rfl rfl (m1 rfl ?_)))))))))))
           refine gF rfl rfl rfl rfl (pF rfl rfl rfl rfl (a1 rfl (on ?_)))
           cases hr359
           exact cu ⟨rfl, tv⟩
         ·have hr360 := if_n hb322 hr321
          refine gf hb322 rfl (gf hb322 rfl (pf hb322 rfl rfl (m1 rfl (gF rfl rfl rfl rfl (gF rfl rfl rfl rfl (pF rfl rfl rfl rfl (m1 rfl (gF rfl rfl rfl rfl (gF rfl rfl rfl rfl (pF rfl rfl rfl rfl (m1 rfl ?_)))))))))))
          refine gF rfl rfl rfl rfl (gF rfl rfl rfl rfl (gF rfl rfl rfl rfl (pF rfl rfl rfl rfl (m1 rfl (gF rfl rfl rfl rfl (gF rfl rfl rfl rfl (gF rfl rfl rfl rfl (pF rfl rfl rfl rfl (m1 rfl (gF rfl rfl rfl rfl (gF rfl rfl rfl rfl ?_)))))))))))
          refine gF rfl rfl rfl rfl (gF rfl rfl rfl rfl (pF rfl rfl rfl rfl (m1 rfl (gF rfl rfl rfl rfl (pF rfl rfl rfl rfl (a1 rfl (on ?_)))))))
          cases hr360
          exact cu ⟨rfl, tv⟩
        ·have hr361 := if_n hb320 hr319
         refine gf hb320 rfl (gf hb320 rfl (pf hb320 rfl rfl (m1 rfl (gF rfl rfl rfl rfl (gF rfl rfl rfl rfl (pF rfl rfl rfl rfl (m1 rfl (gF rfl rfl rfl rfl (gF rfl rfl rfl rfl (pF rfl rfl rfl rfl (m1 rfl ?_)))))))))))
         refine gF rfl rfl rfl rfl (gF rfl rfl rfl rfl (pF rfl rfl rfl rfl (m1 rfl (gF rfl rfl rfl rfl (gF rfl rfl rfl rfl (gF rfl rfl rfl rfl (pF rfl rfl rfl rfl (m1 rfl (gF rfl rfl rfl rfl (gF rfl rfl rfl rfl (gF rfl rfl rfl rfl ?_)))))))))))
         refine pF rfl rfl rfl rfl (m1 rfl (gF rfl rfl rfl rfl (gF rfl rfl rfl rfl (gF rfl rfl rfl rfl (gF rfl rfl rfl rfl (pF rfl rfl rfl rfl (m1 rfl (gF rfl rfl rfl rfl (pF rfl rfl rfl rfl (a1 rfl (on ?_)))))))))))
         cases hr361
         exact cu ⟨rfl, tv⟩
       ·have hr362 := if_n hb318 hr317
        refine gf hb318 rfl (gf hb318 rfl (pf hb318 rfl rfl (m1 rfl (gF rfl rfl rfl rfl (gF rfl rfl rfl rfl (pF rfl rfl rfl rfl (m1 rfl (gF rfl rfl rfl rfl (gF rfl rfl rfl rfl (pF rfl rfl rfl rfl (m1 rfl ?_)))))))))))
        refine gF rfl rfl rfl rfl (gF rfl rfl rfl rfl (pF rfl rfl rfl rfl (m1 rfl (gF rfl rfl rfl rfl (gF rfl rfl rfl rfl (pF rfl rfl rfl rfl (m1 rfl (gF rfl rfl rfl rfl (gF rfl rfl rfl rfl (gF rfl rfl rfl rfl (pF rfl rfl rfl rfl ?_)))))))))))
        refine m1 rfl (gF rfl rfl rfl rfl (gF rfl rfl rfl rfl (gF rfl rfl rfl rfl (pF rfl rfl rfl rfl (m1 rfl (gF rfl rfl rfl rfl (gF rfl rfl rfl rfl (gF rfl rfl rfl rfl (gF rfl rfl rfl rfl (pF rfl rfl rfl rfl (m1 rfl ?_)))))))))))
        refine gF rfl rfl rfl rfl (pF rfl rfl rfl rfl (a1 rfl (on ?_)))
        cases hr362
        exact cu ⟨rfl, tv⟩
      ·have hr363 := if_n hb316 hr315
       refine gf hb316 rfl (gf hb316 rfl (pf hb316 rfl rfl (m1 rfl (gF rfl rfl rfl rfl (gF rfl rfl rfl rfl (pF rfl rfl rfl rfl (m1 rfl (gF rfl rfl rfl rfl (gF rfl rfl rfl rfl (pF rfl rfl rfl rfl (m1 rfl ?_)))))))))))
       refine gF rfl rfl rfl rfl (gF rfl rfl rfl rfl (pF rfl rfl rfl rfl (m1 rfl (gF rfl rfl rfl rfl (gF rfl rfl rfl rfl (pF rfl rfl rfl rfl (m1 rfl (gF rfl rfl rfl rfl (gF rfl rfl rfl rfl (pF rfl rfl rfl rfl (m1 rfl ?_)))))))))))
       refine gF rfl rfl rfl rfl (gF rfl rfl rfl rfl (gF rfl rfl rfl rfl (pF rfl rfl rfl rfl (m1 rfl (gF rfl rfl rfl rfl (gF rfl rfl rfl rfl (gF rfl rfl rfl rfl (pF rfl rfl rfl rfl (m1 rfl (gF rfl rfl rfl rfl (gF rfl rfl rfl rfl ?_)))))))))))
       refine gF rfl rfl rfl rfl (gF rfl rfl rfl rfl (pF rfl rfl rfl rfl (m1 rfl (gF rfl rfl rfl rfl (pF rfl rfl rfl rfl (a1 rfl (on ?_)))))))
       cases hr363
       exact cu ⟨rfl, tv⟩
     ·have hr364 := if_n hb314 hr313
      refine gf hb314 rfl (gf hb314 rfl (pf hb314 rfl rfl (m1 rfl (gF rfl rfl rfl rfl (gF rfl rfl rfl rfl (pF rfl rfl rfl rfl (m1 rfl (gF rfl rfl rfl rfl (gF rfl rfl rfl rfl (pF rfl rfl rfl rfl (m1 rfl ?_)))))))))))
      refine gF rfl rfl rfl rfl (gF rfl rfl rfl rfl (pF rfl rfl rfl rfl (m1 rfl (gF rfl rfl rfl rfl (gF rfl rfl rfl rfl (pF rfl rfl rfl rfl (m1 rfl (gF rfl rfl rfl rfl (gF rfl rfl rfl rfl (pF rfl rfl rfl rfl (m1 rfl ?_)))))))))))
      refine gF rfl rfl rfl rfl (gF rfl rfl rfl rfl (pF rfl rfl rfl rfl (m1 rfl (gF rfl rfl rfl rfl (gF rfl rfl rfl rfl (gF rfl rfl rfl rfl (pF rfl rfl rfl rfl (m1 rfl (gF rfl rfl rfl rfl (gF rfl rfl rfl rfl (gF rfl rfl rfl rfl ?_)))))))))))
      refine pF rfl rfl rfl rfl (m1 rfl (gF rfl rfl rfl rfl (gF rfl rfl rfl rfl (gF rfl rfl rfl rfl (gF rfl rfl rfl rfl (pF rfl rfl rfl rfl (m1 rfl (gF rfl rfl rfl rfl (pF rfl rfl rfl rfl (a1 rfl (on ?_)))))))))))
      cases hr364
      exact cu ⟨rfl, tv⟩
    ·have hr365 := if_n hb312 hx310
     refine gf hb312 rfl (gf hb312 rfl (pf hb312 rfl rfl (m1 rfl (gF rfl rfl rfl rfl (gF rfl rfl rfl rfl (pF rfl rfl rfl rfl (m1 rfl (gF rfl rfl rfl rfl (gF rfl rfl rfl rfl (pF rfl rfl rfl rfl (m1 rfl ?_)))))))))))
     refine gF rfl rfl rfl rfl (gF rfl rfl rfl rfl (pF rfl rfl rfl rfl (m1 rfl (gF rfl rfl rfl rfl (gF rfl rfl rfl rfl (pF rfl rfl rfl rfl (m1 rfl (gF rfl rfl rfl rfl (gF rfl rfl rfl rfl (pF rfl rfl rfl rfl (m1 rfl ?_)))))))))))
     refine gF rfl rfl rfl rfl (gF rfl rfl rfl rfl (pF rfl rfl rfl rfl (m1 rfl (gF rfl rfl rfl rfl (gF rfl rfl rfl rfl (pF rfl rfl rfl rfl (m1 rfl (gF rfl rfl rfl rfl (gF rfl rfl rfl rfl (gF rfl rfl rfl rfl (pF rfl rfl rfl rfl ?_)))))))))))
     refine m1 rfl (gF rfl rfl rfl rfl (gF rfl rfl rfl rfl (gF rfl rfl rfl rfl (pF rfl rfl rfl rfl (m1 rfl (gF rfl rfl rfl rfl (gF rfl rfl rfl rfl (gF rfl rfl rfl rfl (gF rfl rfl rfl rfl (pF rfl rfl rfl rfl (m1 rfl ?_)))))))))))
     refine gF rfl rfl rfl rfl (pF rfl rfl rfl rfl (a1 rfl (on ?_)))
     cases hr365
     exact cu ⟨rfl, tv⟩
   ·rintro a w ⟨hS, hA⟩
    refine TG.ap ?_ hS hA
    refine rt_ ?_
    cases hr311
    intro a w hS hA
    refine ret1 hA rfl rfl ?_
    exact ⟨rfl, hS.ext⟩

end T10
