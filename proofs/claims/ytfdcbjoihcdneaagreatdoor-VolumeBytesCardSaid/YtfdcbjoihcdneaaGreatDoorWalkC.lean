/-
 Walks of functions of layer 10: each call comes to what the model says. Printed by a program of ours.
-/
import Derived.Test.YtfdcbjoihcdneaaGreatDoorWalkB
set_option linter.all false
set_option maxHeartbeats 4000000
namespace T10
open Go Go.Proofs Pk
theorem w24 {M : Prop} {W : World} (s_0 : Bytes) {r : Int × A3_Int × Bool} (hr : m24 s_0 = some r) : Calls Tryz.prog 24 [.string (bs s_0)].toArray W (RetS M W (.tuple [.int .u8 r.1, .agg (encA3_Int r.2.1).toArray, .bool r.2.2].toArray)) := by
 unfold m24 at hr
 refine enterG (M := M) Tryz.func24 rfl Tryz.ntmps24 rfl (Hp.le.refl _) ?_
 refine sq (rg (a1 rfl (al 1 (cs := [.int .i64 0, .int .i64 0, .int .i64 0]) Tryz.zeroValue69 rfl rfl fun b1 => (a1 rfl (on (sq (rg (buA (cs := [.string (bs [118, 111, 108, 46, 32]), .string (bs [44, 32, 99, 111, 108, 46, 32]), .string (bs [44, 32, 108, 46, 32]), .string (bs [])]) T10.B113 rfl rfl rfl (buA (cs := [.string (bs [118, 111, 108, 46, 32]), .string (bs [44, 32]), .string (bs [44, 32, 112, 97, 114, 46, 32]), .string (bs [])]) T10.B113 rfl rfl rfl (buA (cs := [.string (bs []), .string (bs [64]), .string (bs []), .string (bs [])]) T10.B113 rfl rfl rfl (buA (cs := [.string (bs [118, 111, 108, 46, 32]), .string (bs [44, 32, 99, 111, 108, 46, 32]), .string (bs [44, 32, 108, 46, 32]), .string (bs []), .string (bs [118, 111, 108, 46, 32]), .string (bs [44, 32]), .string (bs [44, 32, 112, 97, 114, 46, 32]), .string (bs []), .string (bs []), .string (bs [64]), .string (bs []), .string (bs [])]) T10.B114 rfl rfl rfl ?_)))))))))))
 refine va (cs := [.string (bs [118, 111, 108, 46, 32]), .string (bs [44, 32, 99, 111, 108, 46, 32]), .string (bs [44, 32, 108, 46, 32]), .string (bs []), .string (bs [118, 111, 108, 46, 32]), .string (bs [44, 32]), .string (bs [44, 32, 112, 97, 114, 46, 32]), .string (bs []), .string (bs []), .string (bs [64]), .string (bs []), .string (bs [])]) Tryz.zeroValue114 Z114 rfl rfl rfl rfl rfl rfl rfl rfl fun q2 K3 hK4 => (on (sq (sq (rg (a1 rfl (on ?_))))))
 obtain ⟨e739, hl740, hr741⟩ := bd_some hr
 refine jn (fun a w => ∃ t742, e739 = .inl t742 ∧ St M W (hp W) [K3, (hp W)] [(1, cel b1 69 [.int .i64 0, .int .i64 0, .int .i64 0])] w ∧ Has [] 66 a [(3, .pointer (some (⟨b1, 0, none⟩)))]) ?_ ?_
 ·refine bk ?_
  refine lp hl740 (fun s743 a w => St M W (hp W) [K3, (hp W)] [(1, cel b1 69 [.int .i64 0, .int .i64 0, .int .i64 0])] w ∧ Has [] 66 a [(0, .string (bs s_0)), (3, .pointer (some (⟨b1, 0, none⟩))), (5, .pointer (some q2)), (6, .int .i64 (s743 : Int))]) ?_ ?_
  ·exact cu ⟨rfl, rfl, rfl, rfl, tv⟩
  ·rintro j s743 y746 hr744 hz745 a w ⟨hS, hA⟩
   refine TG.ap ?_ hS hA
   unfold m24_1 at hr744
   refine sq (sq (rg (m1 rfl (ltI rfl rfl rfl (on ?_)))))
   refine ci rfl (fun hc750 => ?_) (fun hc750 => ?_)
   ·have hr751 := if_p hc750 hr744
    refine sk (sq ?_)
    obtain ⟨t1384, hx1385, hr1386⟩ := bd_some hr751
    refine jn (fun a w => ∃ t1387, t1384 = .inl t1387 ∧ St M W (hp W) [K3, (hp W)] [(1, cel b1 69 [.int .i64 0, .int .i64 0, .int .i64 0])] w ∧ Has [] 66 a [(0, .string (bs s_0)), (3, .pointer (some (⟨b1, 0, none⟩))), (5, .pointer (some q2)), (6, .int .i64 (s743 : Int))]) ?_ ?_
    ·refine bk (sq (rg (al 2 (cs := [.int .i64 0, .int .i64 0, .int .i64 0]) Tryz.zeroValue69 rfl rfl fun b1388 => (on (sq (rg (a1 rfl (on (sq (sq (rg ?_)))))))))))
     refine m1 rfl (eqI rfl rfl rfl (on ?_))
     obtain ⟨t1392, hx1393, hr1394⟩ := bd_some hx1385
     refine jn (fun a w => St M W (hp W) [K3, (hp W)] [(2, cel b1388 69 [.int .i64 0, .int .i64 0, .int .i64 0]), (1, cel b1 69 [.int .i64 0, .int .i64 0, .int .i64 0])] w ∧ Has [] 66 a [(0, .string (bs s_0)), (3, .pointer (some (⟨b1, 0, none⟩))), (5, .pointer (some q2)), (6, .int .i64 (s743 : Int)), (7, .pointer (some (⟨b1388, 0, none⟩))), (8, .int .i64 (t1392 : Int))]) ?_ ?_
     ·refine ci rfl (fun hc1395 => ?_) (fun hc1395 => ?_)
      ·have hr1396 := if_p hc1395 hx1393
       refine rg (a1 rfl (on ?_))
       cases hr1396
       exact cu ⟨rfl, rfl, rfl, rfl, rfl, rfl, tv⟩
      ·have hr1397 := if_n hc1395 hx1393
       refine sk ?_
       cases hr1397
       exact cu ⟨rfl, rfl, rfl, rfl, rfl, rfl, tv⟩
     ·rintro a w ⟨hS, hA⟩
      refine TG.ap ?_ hS hA
      refine sq (rg (m1 rfl (m1 rfl ?_)))
      by_cases hb1398 : (s743 : Int) = 0
      ·have hr1399 := if_p hb1398 hr1394
       refine iaA U114 Z113 rfl rfl rfl (j := 0) (by omega) (by decide) (iaA U113 Z9 rfl rfl rfl (j := 0) rfl (by decide) (ld G9 rfl rfl ((sS 0 rfl hK4).take 1) rfl ?_))
       obtain ⟨r1400, hx1401, hr1402⟩ := bd_some hr1399
       refine clS C42 rfl rfl rfl rfl (fun w H hH le => w42 s_0 0 [118, 111, 108, 46, 32] hx1401) (a1 rfl (on (sq (sq (rg (a1 rfl (on ?_)))))))
       obtain ⟨e1597, hl1598, hr1599⟩ := bd_some hr1402
       refine jn (fun a w => St M W (hp W) [K3, (hp W)] [(2, cel b1388 69 [.int .i64 e1597.2.1, .int .i64 e1597.2.2.1, .int .i64 e1597.2.2.2]), (1, cel b1 69 [.int .i64 0, .int .i64 0, .int .i64 0])] w ∧ Has [] 66 a [(0, .string (bs s_0)), (3, .pointer (some (⟨b1, 0, none⟩))), (5, .pointer (some q2)), (6, .int .i64 (s743 : Int)), (7, .pointer (some (⟨b1388, 0, none⟩))), (9, .int .i64 e1597.1)]) ?_ ?_
       ·refine bk ?_
        refine lp hl1598 (fun s1600 a w => St M W (hp W) [K3, (hp W)] [(2, cel b1388 69 [.int .i64 s1600.2.2.1, .int .i64 s1600.2.2.2.1, .int .i64 s1600.2.2.2.2]), (1, cel b1 69 [.int .i64 0, .int .i64 0, .int .i64 0])] w ∧ Has [] 66 a [(0, .string (bs s_0)), (3, .pointer (some (⟨b1, 0, none⟩))), (5, .pointer (some q2)), (6, .int .i64 (s743 : Int)), (7, .pointer (some (⟨b1388, 0, none⟩))), (8, .int .i64 (t1392 : Int)), (9, .int .i64 s1600.2.1), (10, .int .i64 (s1600.1 : Int))]) ?_ ?_
        ·exact cu ⟨rfl, rfl, rfl, rfl, rfl, rfl, rfl, rfl, tv⟩
        ·rintro j s1600 y1603 hr1601 hz1602 a w ⟨hS, hA⟩
         refine TG.ap ?_ hS hA
         unfold m24_2 at hr1601
         refine sq (sq (rg (m1 rfl (m1 rfl (ltI rfl rfl rfl (on ?_))))))
         refine ci rfl (fun hc1607 => ?_) (fun hc1607 => ?_)
         ·have hr1608 := if_p hc1607 hr1601
          refine sk (sq ?_)
          obtain ⟨t1699, hx1700, hr1701⟩ := bd_some hr1608
          refine jn (fun a w => St M W (hp W) [K3, (hp W)] [(2, cel b1388 69 [.int .i64 t1699.2.1, .int .i64 t1699.2.2.1, .int .i64 t1699.2.2.2]), (1, cel b1 69 [.int .i64 0, .int .i64 0, .int .i64 0])] w ∧ Has [] 66 a [(0, .string (bs s_0)), (3, .pointer (some (⟨b1, 0, none⟩))), (5, .pointer (some q2)), (6, .int .i64 (s743 : Int)), (7, .pointer (some (⟨b1388, 0, none⟩))), (8, .int .i64 (t1392 : Int)), (9, .int .i64 t1699.1), (10, .int .i64 (s1600.1 : Int))]) ?_ ?_
          ·refine bk (sq (rg (m1 rfl (m1 rfl (m1 rfl ?_)))))
           obtain ⟨r1702, hx1703, hr1704⟩ := bd_some hx1700
           refine clS C43 rfl rfl rfl rfl (fun w H hH le => w43 s_0 s1600.2.1 hx1703) (m1 rfl (ex rfl rfl rfl (ex rfl rfl rfl ?_)))
           by_cases hb1705 : (s1600.1 : Int) = 0
           ·have hr1706 := if_p hb1705 hr1704
            refine iaA U69 Z3 rfl rfl rfl (j := 0) (by omega) (by decide) (sto 2 (cs := [.int .i64 r1702.1]) Z3 rfl rfl rfl rfl rfl rfl rfl (a1 rfl (on (rg (m1 rfl (m1 rfl (m1 rfl (m1 rfl ?_))))))))
            obtain ⟨hk1707, hr1708⟩ := chk_some hr1706
            refine adI rfl rfl rfl hk1707 (iaA U114 Z113 rfl rfl rfl (j := 0) (by omega) (by decide) ?_)
            by_cases hb1709 : ((s1600.1 : Int) + 1) = 0
            ·have hr1710 := if_p hb1709 hr1708
             refine iaA U113 Z9 rfl rfl rfl (j := 0) (by omega) (by decide) (ld G9 rfl rfl ((sS 0 rfl hK4).take 1) rfl ?_)
             obtain ⟨r1711, hx1712, hr1713⟩ := bd_some hr1710
             refine clS C42 rfl rfl rfl rfl (fun w H hH le => w42 s_0 r1702.2 [118, 111, 108, 46, 32] hx1712) (a1 rfl (on ?_))
             cases hr1713
             exact cu ⟨rfl, rfl, rfl, rfl, rfl, rfl, rfl, rfl, tv⟩
            ·have hr1714 := if_n hb1709 hr1708
             by_cases hb1715 : ((s1600.1 : Int) + 1) = 1
             ·have hr1716 := if_p hb1715 hr1714
              refine iaA U113 Z9 rfl rfl rfl (j := 1) (by omega) (by decide) (ld G9 rfl rfl (((sS 0 rfl hK4).drop 1).take 1) rfl ?_)
              obtain ⟨r1717, hx1718, hr1719⟩ := bd_some hr1716
              refine clS C42 rfl rfl rfl rfl (fun w H hH le => w42 s_0 r1702.2 [44, 32, 99, 111, 108, 46, 32] hx1718) (a1 rfl (on ?_))
              cases hr1719
              exact cu ⟨rfl, rfl, rfl, rfl, rfl, rfl, rfl, rfl, tv⟩
             ·have hr1720 := if_n hb1715 hr1714
              by_cases hb1721 : ((s1600.1 : Int) + 1) = 2
              ·have hr1722 := if_p hb1721 hr1720
               refine iaA U113 Z9 rfl rfl rfl (j := 2) (by omega) (by decide) (ld G9 rfl rfl (((sS 0 rfl hK4).drop 2).take 1) rfl ?_)
               obtain ⟨r1723, hx1724, hr1725⟩ := bd_some hr1722
               refine clS C42 rfl rfl rfl rfl (fun w H hH le => w42 s_0 r1702.2 [44, 32, 108, 46, 32] hx1724) (a1 rfl (on ?_))
               cases hr1725
               exact cu ⟨rfl, rfl, rfl, rfl, rfl, rfl, rfl, rfl, tv⟩
              ·have hr1726 := if_n hb1721 hr1720
               by_cases hb1727 : ((s1600.1 : Int) + 1) = 3
               ·have hr1728 := if_p hb1727 hr1726
                refine iaA U113 Z9 rfl rfl rfl (j := 3) (by omega) (by decide) (ld G9 rfl rfl (((sS 0 rfl hK4).drop 3).take 1) rfl ?_)
                obtain ⟨r1729, hx1730, hr1731⟩ := bd_some hr1728
                refine clS C42 rfl rfl rfl rfl (fun w H hH le => w42 s_0 r1702.2 [] hx1730) (a1 rfl (on ?_))
                cases hr1731
                exact cu ⟨rfl, rfl, rfl, rfl, rfl, rfl, rfl, rfl, tv⟩
               ·have hr1732 := if_n hb1727 hr1726
                cases hr1732
           ·have hr1733 := if_n hb1705 hr1704
            by_cases hb1734 : (s1600.1 : Int) = 1
            ·have hr1735 := if_p hb1734 hr1733
             refine iaA U69 Z3 rfl rfl rfl (j := 1) (by omega) (by decide) (sto 2 (cs := [.int .i64 r1702.1]) Z3 rfl rfl rfl rfl rfl rfl rfl (a1 rfl (on (rg (m1 rfl (m1 rfl (m1 rfl (m1 rfl ?_))))))))
             obtain ⟨hk1736, hr1737⟩ := chk_some hr1735
             refine adI rfl rfl rfl hk1736 (iaA U114 Z113 rfl rfl rfl (j := 0) (by omega) (by decide) ?_)
             by_cases hb1738 : ((s1600.1 : Int) + 1) = 0
             ·have hr1739 := if_p hb1738 hr1737
              refine iaA U113 Z9 rfl rfl rfl (j := 0) (by omega) (by decide) (ld G9 rfl rfl ((sS 0 rfl hK4).take 1) rfl ?_)
              obtain ⟨r1740, hx1741, hr1742⟩ := bd_some hr1739
              refine clS C42 rfl rfl rfl rfl (fun w H hH le => w42 s_0 r1702.2 [118, 111, 108, 46, 32] hx1741) (a1 rfl (on ?_))
              cases hr1742
              exact cu ⟨rfl, rfl, rfl, rfl, rfl, rfl, rfl, rfl, tv⟩
             ·have hr1743 := if_n hb1738 hr1737
              by_cases hb1744 : ((s1600.1 : Int) + 1) = 1
              ·have hr1745 := if_p hb1744 hr1743
               refine iaA U113 Z9 rfl rfl rfl (j := 1) (by omega) (by decide) (ld G9 rfl rfl (((sS 0 rfl hK4).drop 1).take 1) rfl ?_)
               obtain ⟨r1746, hx1747, hr1748⟩ := bd_some hr1745
               refine clS C42 rfl rfl rfl rfl (fun w H hH le => w42 s_0 r1702.2 [44, 32, 99, 111, 108, 46, 32] hx1747) (a1 rfl (on ?_))
               cases hr1748
               exact cu ⟨rfl, rfl, rfl, rfl, rfl, rfl, rfl, rfl, tv⟩
              ·have hr1749 := if_n hb1744 hr1743
               by_cases hb1750 : ((s1600.1 : Int) + 1) = 2
               ·have hr1751 := if_p hb1750 hr1749
                refine iaA U113 Z9 rfl rfl rfl (j := 2) (by omega) (by decide) (ld G9 rfl rfl (((sS 0 rfl hK4).drop 2).take 1) rfl ?_)
                obtain ⟨r1752, hx1753, hr1754⟩ := bd_some hr1751
                refine clS C42 rfl rfl rfl rfl (fun w H hH le => w42 s_0 r1702.2 [44, 32, 108, 46, 32] hx1753) (a1 rfl (on ?_))
                cases hr1754
                exact cu ⟨rfl, rfl, rfl, rfl, rfl, rfl, rfl, rfl, tv⟩
               ·have hr1755 := if_n hb1750 hr1749
                by_cases hb1756 : ((s1600.1 : Int) + 1) = 3
                ·have hr1757 := if_p hb1756 hr1755
                 refine iaA U113 Z9 rfl rfl rfl (j := 3) (by omega) (by decide) (ld G9 rfl rfl (((sS 0 rfl hK4).drop 3).take 1) rfl ?_)
                 obtain ⟨r1758, hx1759, hr1760⟩ := bd_some hr1757
                 refine clS C42 rfl rfl rfl rfl (fun w H hH le => w42 s_0 r1702.2 [] hx1759) (a1 rfl (on ?_))
                 cases hr1760
                 exact cu ⟨rfl, rfl, rfl, rfl, rfl, rfl, rfl, rfl, tv⟩
                ·have hr1761 := if_n hb1756 hr1755
                 cases hr1761
            ·have hr1762 := if_n hb1734 hr1733
             by_cases hb1763 : (s1600.1 : Int) = 2
             ·have hr1764 := if_p hb1763 hr1762
              refine iaA U69 Z3 rfl rfl rfl (j := 2) (by omega) (by decide) (sto 2 (cs := [.int .i64 r1702.1]) Z3 rfl rfl rfl rfl rfl rfl rfl (a1 rfl (on (rg (m1 rfl (m1 rfl (m1 rfl (m1 rfl ?_))))))))
              obtain ⟨hk1765, hr1766⟩ := chk_some hr1764
              refine adI rfl rfl rfl hk1765 (iaA U114 Z113 rfl rfl rfl (j := 0) (by omega) (by decide) ?_)
              by_cases hb1767 : ((s1600.1 : Int) + 1) = 0
              ·have hr1768 := if_p hb1767 hr1766
               refine iaA U113 Z9 rfl rfl rfl (j := 0) (by omega) (by decide) (ld G9 rfl rfl ((sS 0 rfl hK4).take 1) rfl ?_)
               obtain ⟨r1769, hx1770, hr1771⟩ := bd_some hr1768
               refine clS C42 rfl rfl rfl rfl (fun w H hH le => w42 s_0 r1702.2 [118, 111, 108, 46, 32] hx1770) (a1 rfl (on ?_))
               cases hr1771
               exact cu ⟨rfl, rfl, rfl, rfl, rfl, rfl, rfl, rfl, tv⟩
              ·have hr1772 := if_n hb1767 hr1766
               by_cases hb1773 : ((s1600.1 : Int) + 1) = 1
               ·have hr1774 := if_p hb1773 hr1772
                refine iaA U113 Z9 rfl rfl rfl (j := 1) (by omega) (by decide) (ld G9 rfl rfl (((sS 0 rfl hK4).drop 1).take 1) rfl ?_)
                obtain ⟨r1775, hx1776, hr1777⟩ := bd_some hr1774
                refine clS C42 rfl rfl rfl rfl (fun w H hH le => w42 s_0 r1702.2 [44, 32, 99, 111, 108, 46, 32] hx1776) (a1 rfl (on ?_))
                cases hr1777
                exact cu ⟨rfl, rfl, rfl, rfl, rfl, rfl, rfl, rfl, tv⟩
               ·have hr1778 := if_n hb1773 hr1772
                by_cases hb1779 : ((s1600.1 : Int) + 1) = 2
                ·have hr1780 := if_p hb1779 hr1778
                 refine iaA U113 Z9 rfl rfl rfl (j := 2) (by omega) (by decide) (ld G9 rfl rfl (((sS 0 rfl hK4).drop 2).take 1) rfl ?_)
                 obtain ⟨r1781, hx1782, hr1783⟩ := bd_some hr1780
                 refine clS C42 rfl rfl rfl rfl (fun w H hH le => w42 s_0 r1702.2 [44, 32, 108, 46, 32] hx1782) (a1 rfl (on ?_))
                 cases hr1783
                 exact cu ⟨rfl, rfl, rfl, rfl, rfl, rfl, rfl, rfl, tv⟩
                ·have hr1784 := if_n hb1779 hr1778
                 by_cases hb1785 : ((s1600.1 : Int) + 1) = 3
                 ·have hr1786 := if_p hb1785 hr1784
                  refine iaA U113 Z9 rfl rfl rfl (j := 3) (by omega) (by decide) (ld G9 rfl rfl (((sS 0 rfl hK4).drop 3).take 1) rfl ?_)
                  obtain ⟨r1787, hx1788, hr1789⟩ := bd_some hr1786
                  refine clS C42 rfl rfl rfl rfl (fun w H hH le => w42 s_0 r1702.2 [] hx1788) (a1 rfl (on ?_))
                  cases hr1789
                  exact cu ⟨rfl, rfl, rfl, rfl, rfl, rfl, rfl, rfl, tv⟩
                 ·have hr1790 := if_n hb1785 hr1784
                  cases hr1790
             ·have hr1791 := if_n hb1763 hr1762
              cases hr1791
          ·rintro a w ⟨hS, hA⟩
           refine TG.ap ?_ hS hA
           refine rg (m1 rfl ?_)
           obtain ⟨hk1792, hr1793⟩ := chk_some hr1701
           refine adI rfl rfl rfl hk1792 (a1 rfl (on ?_))
           cases hr1793
           intro a w hS hA
           exact ⟨_, hz1602, hS, hA.cut ⟨rfl, rfl, rfl, rfl, rfl, rfl, rfl, rfl, tv⟩⟩
         ·have hr1794 := if_n hc1607 hr1601
          refine xt rfl ?_
          cases hr1794
          obtain rfl := Fin.out hz1602
          exact cu ⟨rfl, rfl, rfl, rfl, rfl, rfl, tv⟩
       ·rintro a w ⟨hS, hA⟩
        refine TG.ap ?_ hS hA
        refine sq ?_
        obtain ⟨t1798, hx1799, hr1800⟩ := bd_some hr1599
        refine jn (fun a w => St M W (hp W) [K3, (hp W)] [(2, cel b1388 69 [.int .i64 e1597.2.1, .int .i64 e1597.2.2.1, .int .i64 e1597.2.2.2]), (1, cel b1 69 [.int .i64 0, .int .i64 0, .int .i64 0])] w ∧ Has [] 66 a [(0, .string (bs s_0)), (3, .pointer (some (⟨b1, 0, none⟩))), (5, .pointer (some q2)), (6, .int .i64 (s743 : Int)), (7, .pointer (some (⟨b1388, 0, none⟩))), (61, .bool t1798)]) ?_ ?_
        ·refine rg (m1 rfl (m1 rfl (lnS U9 rfl rfl (eqI rfl rfl rfl (m1 rfl ?_)))))
         by_cases hb1801 : e1597.1 = (s_0.length : Int)
         ·have hr1802 := if_p hb1801 hx1799
          refine gt hb1801 rfl (m1 rfl (gt hb1801 rfl (eqI rfl rfl rfl (gt hb1801 rfl (m1 rfl (gf' hb1398 rfl (gf' hb1398 rfl (gf' hb1398 rfl (gt hb1801 rfl (pt hb1398 rfl rfl (pt hb1801 rfl rfl ?_)))))))))))
          refine on ?_
          cases hr1802
          exact cu ⟨rfl, rfl, rfl, rfl, rfl, rfl, tv⟩
         ·have hr1803 := if_n hb1801 hx1799
          refine gf hb1801 rfl (gf hb1801 rfl (gf hb1801 rfl (gU rfl rfl rfl (gU rfl rfl rfl (gU rfl rfl rfl (gf hb1801 rfl (pf hb1801 rfl rfl (on ?_))))))))
          cases hr1803
          exact cu ⟨rfl, rfl, rfl, rfl, rfl, rfl, tv⟩
        ·rintro a w ⟨hS, hA⟩
         refine TG.ap ?_ hS hA
         refine cb rfl (fun hc1808 => ?_) (fun hc1808 => ?_)
         ·have hr1809 := if_p hc1808 hr1800
          refine sq (drG 4 mixed (by kernel_rfl) rfl (dt rfl (m1 rfl fin1) (dt rfl (cvI U3 U5 rfl rfl (wr_u8 (by omega)) fin1) (dt rfl (ldA G69 Z69 rfl rfl (sO 2 rfl) rfl fin1) (dt rfl (a1 rfl fin1) (DF.nil fun K1810 hF => (sto 1 (cs := [.int .i64 e1597.2.1, .int .i64 e1597.2.2.1, .int .i64 e1597.2.2.2]) Z69 rfl rfl rfl rfl rfl rfl rfl (a1 rfl (on (rt_ ?_))))))))))
          cases hr1809
          cases hr1386
          obtain rfl := Fin.out hz745
          cases hr741
          intro a w hS hA
          refine rc3 hA rfl (ResAt.tmp rfl) (ResAt.cell rfl (loadsA G69 Z69 (cell_at (hS.get (t := 1) rfl)) rfl)) (ResAt.tmp rfl) ?_
          exact ⟨rfl, hS.ext⟩
         ·have hr1811 := if_f hc1808 hr1800
          refine sk (TG.del 2 ?_)
          cases hr1811
          intro a w hS hA
          exact ⟨_, rfl, hS, hA.cut ⟨rfl, rfl, rfl, rfl, tv⟩⟩
      ·have hr1812 := if_n hb1398 hr1394
       by_cases hb1813 : (s743 : Int) = 1
       ·have hr1814 := if_p hb1813 hr1812
        refine iaA U114 Z113 rfl rfl rfl (j := 1) (by omega) (by decide) (iaA U113 Z9 rfl rfl rfl (j := 0) rfl (by decide) (ld G9 rfl rfl (((sS 0 rfl hK4).drop 4).take 1) rfl ?_))
        obtain ⟨r1815, hx1816, hr1817⟩ := bd_some hr1814
        refine clS C42 rfl rfl rfl rfl (fun w H hH le => w42 s_0 0 [118, 111, 108, 46, 32] hx1816) (a1 rfl (on (sq (sq (rg (a1 rfl (on ?_)))))))
        obtain ⟨e2012, hl2013, hr2014⟩ := bd_some hr1817
        refine jn (fun a w => St M W (hp W) [K3, (hp W)] [(2, cel b1388 69 [.int .i64 e2012.2.1, .int .i64 e2012.2.2.1, .int .i64 e2012.2.2.2]), (1, cel b1 69 [.int .i64 0, .int .i64 0, .int .i64 0])] w ∧ Has [] 66 a [(0, .string (bs s_0)), (3, .pointer (some (⟨b1, 0, none⟩))), (5, .pointer (some q2)), (6, .int .i64 (s743 : Int)), (7, .pointer (some (⟨b1388, 0, none⟩))), (9, .int .i64 e2012.1)]) ?_ ?_
        ·refine bk ?_
         refine lp hl2013 (fun s2015 a w => St M W (hp W) [K3, (hp W)] [(2, cel b1388 69 [.int .i64 s2015.2.2.1, .int .i64 s2015.2.2.2.1, .int .i64 s2015.2.2.2.2]), (1, cel b1 69 [.int .i64 0, .int .i64 0, .int .i64 0])] w ∧ Has [] 66 a [(0, .string (bs s_0)), (3, .pointer (some (⟨b1, 0, none⟩))), (5, .pointer (some q2)), (6, .int .i64 (s743 : Int)), (7, .pointer (some (⟨b1388, 0, none⟩))), (8, .int .i64 (t1392 : Int)), (9, .int .i64 s2015.2.1), (10, .int .i64 (s2015.1 : Int))]) ?_ ?_
         ·exact cu ⟨rfl, rfl, rfl, rfl, rfl, rfl, rfl, rfl, tv⟩
         ·rintro j s2015 y2018 hr2016 hz2017 a w ⟨hS, hA⟩
          refine TG.ap ?_ hS hA
          unfold m24_3 at hr2016
          refine sq (sq (rg (m1 rfl (m1 rfl (ltI rfl rfl rfl (on ?_))))))
          refine ci rfl (fun hc2022 => ?_) (fun hc2022 => ?_)
          ·have hr2023 := if_p hc2022 hr2016
           refine sk (sq ?_)
           obtain ⟨t2114, hx2115, hr2116⟩ := bd_some hr2023
           refine jn (fun a w => St M W (hp W) [K3, (hp W)] [(2, cel b1388 69 [.int .i64 t2114.2.1, .int .i64 t2114.2.2.1, .int .i64 t2114.2.2.2]), (1, cel b1 69 [.int .i64 0, .int .i64 0, .int .i64 0])] w ∧ Has [] 66 a [(0, .string (bs s_0)), (3, .pointer (some (⟨b1, 0, none⟩))), (5, .pointer (some q2)), (6, .int .i64 (s743 : Int)), (7, .pointer (some (⟨b1388, 0, none⟩))), (8, .int .i64 (t1392 : Int)), (9, .int .i64 t2114.1), (10, .int .i64 (s2015.1 : Int))]) ?_ ?_
           ·refine bk (sq (rg (m1 rfl (m1 rfl (m1 rfl ?_)))))
            obtain ⟨r2117, hx2118, hr2119⟩ := bd_some hx2115
            refine clS C43 rfl rfl rfl rfl (fun w H hH le => w43 s_0 s2015.2.1 hx2118) (m1 rfl (ex rfl rfl rfl (ex rfl rfl rfl ?_)))
            by_cases hb2120 : (s2015.1 : Int) = 0
            ·have hr2121 := if_p hb2120 hr2119
             refine iaA U69 Z3 rfl rfl rfl (j := 0) (by omega) (by decide) (sto 2 (cs := [.int .i64 r2117.1]) Z3 rfl rfl rfl rfl rfl rfl rfl (a1 rfl (on (rg (m1 rfl (m1 rfl (m1 rfl (m1 rfl ?_))))))))
             obtain ⟨hk2122, hr2123⟩ := chk_some hr2121
             refine adI rfl rfl rfl hk2122 (iaA U114 Z113 rfl rfl rfl (j := 1) (by omega) (by decide) ?_)
             by_cases hb2124 : ((s2015.1 : Int) + 1) = 0
             ·have hr2125 := if_p hb2124 hr2123
              refine iaA U113 Z9 rfl rfl rfl (j := 0) (by omega) (by decide) (ld G9 rfl rfl (((sS 0 rfl hK4).drop 4).take 1) rfl ?_)
              obtain ⟨r2126, hx2127, hr2128⟩ := bd_some hr2125
              refine clS C42 rfl rfl rfl rfl (fun w H hH le => w42 s_0 r2117.2 [118, 111, 108, 46, 32] hx2127) (a1 rfl (on ?_))
              cases hr2128
              exact cu ⟨rfl, rfl, rfl, rfl, rfl, rfl, rfl, rfl, tv⟩
             ·have hr2129 := if_n hb2124 hr2123
              by_cases hb2130 : ((s2015.1 : Int) + 1) = 1
              ·have hr2131 := if_p hb2130 hr2129
               refine iaA U113 Z9 rfl rfl rfl (j := 1) (by omega) (by decide) (ld G9 rfl rfl (((sS 0 rfl hK4).drop 5).take 1) rfl ?_)
               obtain ⟨r2132, hx2133, hr2134⟩ := bd_some hr2131
               refine clS C42 rfl rfl rfl rfl (fun w H hH le => w42 s_0 r2117.2 [44, 32] hx2133) (a1 rfl (on ?_))
               cases hr2134
               exact cu ⟨rfl, rfl, rfl, rfl, rfl, rfl, rfl, rfl, tv⟩
              ·have hr2135 := if_n hb2130 hr2129
               by_cases hb2136 : ((s2015.1 : Int) + 1) = 2
               ·have hr2137 := if_p hb2136 hr2135
                refine iaA U113 Z9 rfl rfl rfl (j := 2) (by omega) (by decide) (ld G9 rfl rfl (((sS 0 rfl hK4).drop 6).take 1) rfl ?_)
                obtain ⟨r2138, hx2139, hr2140⟩ := bd_some hr2137
                refine clS C42 rfl rfl rfl rfl (fun w H hH le => w42 s_0 r2117.2 [44, 32, 112, 97, 114, 46, 32] hx2139) (a1 rfl (on ?_))
                cases hr2140
                exact cu ⟨rfl, rfl, rfl, rfl, rfl, rfl, rfl, rfl, tv⟩
               ·have hr2141 := if_n hb2136 hr2135
                by_cases hb2142 : ((s2015.1 : Int) + 1) = 3
                ·have hr2143 := if_p hb2142 hr2141
                 refine iaA U113 Z9 rfl rfl rfl (j := 3) (by omega) (by decide) (ld G9 rfl rfl (((sS 0 rfl hK4).drop 7).take 1) rfl ?_)
                 obtain ⟨r2144, hx2145, hr2146⟩ := bd_some hr2143
                 refine clS C42 rfl rfl rfl rfl (fun w H hH le => w42 s_0 r2117.2 [] hx2145) (a1 rfl (on ?_))
                 cases hr2146
                 exact cu ⟨rfl, rfl, rfl, rfl, rfl, rfl, rfl, rfl, tv⟩
                ·have hr2147 := if_n hb2142 hr2141
                 cases hr2147
            ·have hr2148 := if_n hb2120 hr2119
             by_cases hb2149 : (s2015.1 : Int) = 1
             ·have hr2150 := if_p hb2149 hr2148
              refine iaA U69 Z3 rfl rfl rfl (j := 1) (by omega) (by decide) (sto 2 (cs := [.int .i64 r2117.1]) Z3 rfl rfl rfl rfl rfl rfl rfl (a1 rfl (on (rg (m1 rfl (m1 rfl (m1 rfl (m1 rfl ?_))))))))
              obtain ⟨hk2151, hr2152⟩ := chk_some hr2150
              refine adI rfl rfl rfl hk2151 (iaA U114 Z113 rfl rfl rfl (j := 1) (by omega) (by decide) ?_)
              by_cases hb2153 : ((s2015.1 : Int) + 1) = 0
              ·have hr2154 := if_p hb2153 hr2152
               refine iaA U113 Z9 rfl rfl rfl (j := 0) (by omega) (by decide) (ld G9 rfl rfl (((sS 0 rfl hK4).drop 4).take 1) rfl ?_)
               obtain ⟨r2155, hx2156, hr2157⟩ := bd_some hr2154
               refine clS C42 rfl rfl rfl rfl (fun w H hH le => w42 s_0 r2117.2 [118, 111, 108, 46, 32] hx2156) (a1 rfl (on ?_))
               cases hr2157
               exact cu ⟨rfl, rfl, rfl, rfl, rfl, rfl, rfl, rfl, tv⟩
              ·have hr2158 := if_n hb2153 hr2152
               by_cases hb2159 : ((s2015.1 : Int) + 1) = 1
               ·have hr2160 := if_p hb2159 hr2158
                refine iaA U113 Z9 rfl rfl rfl (j := 1) (by omega) (by decide) (ld G9 rfl rfl (((sS 0 rfl hK4).drop 5).take 1) rfl ?_)
                obtain ⟨r2161, hx2162, hr2163⟩ := bd_some hr2160
                refine clS C42 rfl rfl rfl rfl (fun w H hH le => w42 s_0 r2117.2 [44, 32] hx2162) (a1 rfl (on ?_))
                cases hr2163
                exact cu ⟨rfl, rfl, rfl, rfl, rfl, rfl, rfl, rfl, tv⟩
               ·have hr2164 := if_n hb2159 hr2158
                by_cases hb2165 : ((s2015.1 : Int) + 1) = 2
                ·have hr2166 := if_p hb2165 hr2164
                 refine iaA U113 Z9 rfl rfl rfl (j := 2) (by omega) (by decide) (ld G9 rfl rfl (((sS 0 rfl hK4).drop 6).take 1) rfl ?_)
                 obtain ⟨r2167, hx2168, hr2169⟩ := bd_some hr2166
                 refine clS C42 rfl rfl rfl rfl (fun w H hH le => w42 s_0 r2117.2 [44, 32, 112, 97, 114, 46, 32] hx2168) (a1 rfl (on ?_))
                 cases hr2169
                 exact cu ⟨rfl, rfl, rfl, rfl, rfl, rfl, rfl, rfl, tv⟩
                ·have hr2170 := if_n hb2165 hr2164
                 by_cases hb2171 : ((s2015.1 : Int) + 1) = 3
                 ·have hr2172 := if_p hb2171 hr2170
                  refine iaA U113 Z9 rfl rfl rfl (j := 3) (by omega) (by decide) (ld G9 rfl rfl (((sS 0 rfl hK4).drop 7).take 1) rfl ?_)
                  obtain ⟨r2173, hx2174, hr2175⟩ := bd_some hr2172
                  refine clS C42 rfl rfl rfl rfl (fun w H hH le => w42 s_0 r2117.2 [] hx2174) (a1 rfl (on ?_))
                  cases hr2175
                  exact cu ⟨rfl, rfl, rfl, rfl, rfl, rfl, rfl, rfl, tv⟩
                 ·have hr2176 := if_n hb2171 hr2170
                  cases hr2176
             ·have hr2177 := if_n hb2149 hr2148
              by_cases hb2178 : (s2015.1 : Int) = 2
              ·have hr2179 := if_p hb2178 hr2177
               refine iaA U69 Z3 rfl rfl rfl (j := 2) (by omega) (by decide) (sto 2 (cs := [.int .i64 r2117.1]) Z3 rfl rfl rfl rfl rfl rfl rfl (a1 rfl (on (rg (m1 rfl (m1 rfl (m1 rfl (m1 rfl ?_))))))))
               obtain ⟨hk2180, hr2181⟩ := chk_some hr2179
               refine adI rfl rfl rfl hk2180 (iaA U114 Z113 rfl rfl rfl (j := 1) (by omega) (by decide) ?_)
               by_cases hb2182 : ((s2015.1 : Int) + 1) = 0
               ·have hr2183 := if_p hb2182 hr2181
                refine iaA U113 Z9 rfl rfl rfl (j := 0) (by omega) (by decide) (ld G9 rfl rfl (((sS 0 rfl hK4).drop 4).take 1) rfl ?_)
                obtain ⟨r2184, hx2185, hr2186⟩ := bd_some hr2183
                refine clS C42 rfl rfl rfl rfl (fun w H hH le => w42 s_0 r2117.2 [118, 111, 108, 46, 32] hx2185) (a1 rfl (on ?_))
                cases hr2186
                exact cu ⟨rfl, rfl, rfl, rfl, rfl, rfl, rfl, rfl, tv⟩
               ·have hr2187 := if_n hb2182 hr2181
                by_cases hb2188 : ((s2015.1 : Int) + 1) = 1
                ·have hr2189 := if_p hb2188 hr2187
                 refine iaA U113 Z9 rfl rfl rfl (j := 1) (by omega) (by decide) (ld G9 rfl rfl (((sS 0 rfl hK4).drop 5).take 1) rfl ?_)
                 obtain ⟨r2190, hx2191, hr2192⟩ := bd_some hr2189
                 refine clS C42 rfl rfl rfl rfl (fun w H hH le => w42 s_0 r2117.2 [44, 32] hx2191) (a1 rfl (on ?_))
                 cases hr2192
                 exact cu ⟨rfl, rfl, rfl, rfl, rfl, rfl, rfl, rfl, tv⟩
                ·have hr2193 := if_n hb2188 hr2187
                 by_cases hb2194 : ((s2015.1 : Int) + 1) = 2
                 ·have hr2195 := if_p hb2194 hr2193
                  refine iaA U113 Z9 rfl rfl rfl (j := 2) (by omega) (by decide) (ld G9 rfl rfl (((sS 0 rfl hK4).drop 6).take 1) rfl ?_)
                  obtain ⟨r2196, hx2197, hr2198⟩ := bd_some hr2195
                  refine clS C42 rfl rfl rfl rfl (fun w H hH le => w42 s_0 r2117.2 [44, 32, 112, 97, 114, 46, 32] hx2197) (a1 rfl (on ?_))
                  cases hr2198
                  exact cu ⟨rfl, rfl, rfl, rfl, rfl, rfl, rfl, rfl, tv⟩
                 ·have hr2199 := if_n hb2194 hr2193
                  by_cases hb2200 : ((s2015.1 : Int) + 1) = 3
                  ·have hr2201 := if_p hb2200 hr2199
                   refine iaA U113 Z9 rfl rfl rfl (j := 3) (by omega) (by decide) (ld G9 rfl rfl (((sS 0 rfl hK4).drop 7).take 1) rfl ?_)
                   obtain ⟨r2202, hx2203, hr2204⟩ := bd_some hr2201
                   refine clS C42 rfl rfl rfl rfl (fun w H hH le => w42 s_0 r2117.2 [] hx2203) (a1 rfl (on ?_))
                   cases hr2204
                   exact cu ⟨rfl, rfl, rfl, rfl, rfl, rfl, rfl, rfl, tv⟩
                  ·have hr2205 := if_n hb2200 hr2199
                   cases hr2205
              ·have hr2206 := if_n hb2178 hr2177
               cases hr2206
           ·rintro a w ⟨hS, hA⟩
            refine TG.ap ?_ hS hA
            refine rg (m1 rfl ?_)
            obtain ⟨hk2207, hr2208⟩ := chk_some hr2116
            refine adI rfl rfl rfl hk2207 (a1 rfl (on ?_))
            cases hr2208
            intro a w hS hA
            exact ⟨_, hz2017, hS, hA.cut ⟨rfl, rfl, rfl, rfl, rfl, rfl, rfl, rfl, tv⟩⟩
          ·have hr2209 := if_n hc2022 hr2016
           refine xt rfl ?_
           cases hr2209
           obtain rfl := Fin.out hz2017
           exact cu ⟨rfl, rfl, rfl, rfl, rfl, rfl, tv⟩
        ·rintro a w ⟨hS, hA⟩
         refine TG.ap ?_ hS hA
         refine sq ?_
         obtain ⟨t2213, hx2214, hr2215⟩ := bd_some hr2014
         refine jn (fun a w => St M W (hp W) [K3, (hp W)] [(2, cel b1388 69 [.int .i64 e2012.2.1, .int .i64 e2012.2.2.1, .int .i64 e2012.2.2.2]), (1, cel b1 69 [.int .i64 0, .int .i64 0, .int .i64 0])] w ∧ Has [] 66 a [(0, .string (bs s_0)), (3, .pointer (some (⟨b1, 0, none⟩))), (5, .pointer (some q2)), (6, .int .i64 (s743 : Int)), (7, .pointer (some (⟨b1388, 0, none⟩))), (61, .bool t2213)]) ?_ ?_
         ·refine rg (m1 rfl (m1 rfl (lnS U9 rfl rfl (eqI rfl rfl rfl (m1 rfl ?_)))))
          by_cases hb2216 : e2012.1 = (s_0.length : Int)
          ·have hr2217 := if_p hb2216 hx2214
           refine gt hb2216 rfl (m1 rfl (gt hb2216 rfl (eqI rfl rfl rfl (gt hb2216 rfl (m1 rfl (gt' hb1398 rfl (iaA U69 Z3 rfl rfl rfl (j := 1) rfl (by decide) (gt' hb1398 rfl (ld G3 rfl rfl (((sO 2 rfl).drop 1).take 1) rfl (gt' hb1398 rfl (leI rfl rfl rfl ?_)))))))))))
           refine gt hb2216 rfl (pf hb1398 rfl rfl (pt hb2216 rfl rfl (on ?_)))
           cases hr2217
           exact cu ⟨rfl, rfl, rfl, rfl, rfl, rfl, tv⟩
          ·have hr2218 := if_n hb2216 hx2214
           refine gf hb2216 rfl (gf hb2216 rfl (gf hb2216 rfl (gU rfl rfl rfl (gU rfl rfl rfl (gU rfl rfl rfl (gf hb2216 rfl (pf hb2216 rfl rfl (on ?_))))))))
           cases hr2218
           exact cu ⟨rfl, rfl, rfl, rfl, rfl, rfl, tv⟩
         ·rintro a w ⟨hS, hA⟩
          refine TG.ap ?_ hS hA
          refine cb rfl (fun hc2223 => ?_) (fun hc2223 => ?_)
          ·have hr2224 := if_p hc2223 hr2215
           refine sq (drG 4 mixed (by kernel_rfl) rfl (dt rfl (m1 rfl fin1) (dt rfl (cvI U3 U5 rfl rfl (wr_u8 (by omega)) fin1) (dt rfl (ldA G69 Z69 rfl rfl (sO 2 rfl) rfl fin1) (dt rfl (a1 rfl fin1) (DF.nil fun K2225 hF => (sto 1 (cs := [.int .i64 e2012.2.1, .int .i64 e2012.2.2.1, .int .i64 e2012.2.2.2]) Z69 rfl rfl rfl rfl rfl rfl rfl (a1 rfl (on (rt_ ?_))))))))))
           cases hr2224
           cases hr1386
           obtain rfl := Fin.out hz745
           cases hr741
           intro a w hS hA
           refine rc3 hA rfl (ResAt.tmp rfl) (ResAt.cell rfl (loadsA G69 Z69 (cell_at (hS.get (t := 1) rfl)) rfl)) (ResAt.tmp rfl) ?_
           exact ⟨rfl, hS.ext⟩
          ·have hr2226 := if_f hc2223 hr2215
           refine sk (TG.del 2 ?_)
           cases hr2226
           intro a w hS hA
           exact ⟨_, rfl, hS, hA.cut ⟨rfl, rfl, rfl, rfl, tv⟩⟩
       ·have hr2227 := if_n hb1813 hr1812
        by_cases hb2228 : (s743 : Int) = 2
        ·have hr2229 := if_p hb2228 hr2227
         refine iaA U114 Z113 rfl rfl rfl (j := 2) (by omega) (by decide) (iaA U113 Z9 rfl rfl rfl (j := 0) rfl (by decide) (ld G9 rfl rfl (((sS 0 rfl hK4).drop 8).take 1) rfl ?_))
         obtain ⟨r2230, hx2231, hr2232⟩ := bd_some hr2229
         refine clS C42 rfl rfl rfl rfl (fun w H hH le => w42 s_0 0 [] hx2231) (a1 rfl (on (sq (sq (rg (a1 rfl (on ?_)))))))
         obtain ⟨e2427, hl2428, hr2429⟩ := bd_some hr2232
         refine jn (fun a w => St M W (hp W) [K3, (hp W)] [(2, cel b1388 69 [.int .i64 e2427.2.1, .int .i64 e2427.2.2.1, .int .i64 e2427.2.2.2]), (1, cel b1 69 [.int .i64 0, .int .i64 0, .int .i64 0])] w ∧ Has [] 66 a [(0, .string (bs s_0)), (3, .pointer (some (⟨b1, 0, none⟩))), (5, .pointer (some q2)), (6, .int .i64 (s743 : Int)), (7, .pointer (some (⟨b1388, 0, none⟩))), (9, .int .i64 e2427.1)]) ?_ ?_
         ·refine bk ?_
          refine lp hl2428 (fun s2430 a w => St M W (hp W) [K3, (hp W)] [(2, cel b1388 69 [.int .i64 s2430.2.2.1, .int .i64 s2430.2.2.2.1, .int .i64 s2430.2.2.2.2]), (1, cel b1 69 [.int .i64 0, .int .i64 0, .int .i64 0])] w ∧ Has [] 66 a [(0, .string (bs s_0)), (3, .pointer (some (⟨b1, 0, none⟩))), (5, .pointer (some q2)), (6, .int .i64 (s743 : Int)), (7, .pointer (some (⟨b1388, 0, none⟩))), (8, .int .i64 (t1392 : Int)), (9, .int .i64 s2430.2.1), (10, .int .i64 (s2430.1 : Int))]) ?_ ?_
          ·exact cu ⟨rfl, rfl, rfl, rfl, rfl, rfl, rfl, rfl, tv⟩
          ·rintro j s2430 y2433 hr2431 hz2432 a w ⟨hS, hA⟩
           refine TG.ap ?_ hS hA
           unfold m24_4 at hr2431
           refine sq (sq (rg (m1 rfl (m1 rfl (ltI rfl rfl rfl (on ?_))))))
           refine ci rfl (fun hc2437 => ?_) (fun hc2437 => ?_)
           ·have hr2438 := if_p hc2437 hr2431
            refine sk (sq ?_)
            obtain ⟨t2529, hx2530, hr2531⟩ := bd_some hr2438
            refine jn (fun a w => St M W (hp W) [K3, (hp W)] [(2, cel b1388 69 [.int .i64 t2529.2.1, .int .i64 t2529.2.2.1, .int .i64 t2529.2.2.2]), (1, cel b1 69 [.int .i64 0, .int .i64 0, .int .i64 0])] w ∧ Has [] 66 a [(0, .string (bs s_0)), (3, .pointer (some (⟨b1, 0, none⟩))), (5, .pointer (some q2)), (6, .int .i64 (s743 : Int)), (7, .pointer (some (⟨b1388, 0, none⟩))), (8, .int .i64 (t1392 : Int)), (9, .int .i64 t2529.1), (10, .int .i64 (s2430.1 : Int))]) ?_ ?_
            ·refine bk (sq (rg (m1 rfl (m1 rfl (m1 rfl ?_)))))
             obtain ⟨r2532, hx2533, hr2534⟩ := bd_some hx2530
             refine clS C43 rfl rfl rfl rfl (fun w H hH le => w43 s_0 s2430.2.1 hx2533) (m1 rfl (ex rfl rfl rfl (ex rfl rfl rfl ?_)))
             by_cases hb2535 : (s2430.1 : Int) = 0
             ·have hr2536 := if_p hb2535 hr2534
              refine iaA U69 Z3 rfl rfl rfl (j := 0) (by omega) (by decide) (sto 2 (cs := [.int .i64 r2532.1]) Z3 rfl rfl rfl rfl rfl rfl rfl (a1 rfl (on (rg (m1 rfl (m1 rfl (m1 rfl (m1 rfl ?_))))))))
              obtain ⟨hk2537, hr2538⟩ := chk_some hr2536
              refine adI rfl rfl rfl hk2537 (iaA U114 Z113 rfl rfl rfl (j := 2) (by omega) (by decide) ?_)
              by_cases hb2539 : ((s2430.1 : Int) + 1) = 0
              ·have hr2540 := if_p hb2539 hr2538
               refine iaA U113 Z9 rfl rfl rfl (j := 0) (by omega) (by decide) (ld G9 rfl rfl (((sS 0 rfl hK4).drop 8).take 1) rfl ?_)
               obtain ⟨r2541, hx2542, hr2543⟩ := bd_some hr2540
               refine clS C42 rfl rfl rfl rfl (fun w H hH le => w42 s_0 r2532.2 [] hx2542) (a1 rfl (on ?_))
               cases hr2543
               exact cu ⟨rfl, rfl, rfl, rfl, rfl, rfl, rfl, rfl, tv⟩
              ·have hr2544 := if_n hb2539 hr2538
               by_cases hb2545 : ((s2430.1 : Int) + 1) = 1
               ·have hr2546 := if_p hb2545 hr2544
                refine iaA U113 Z9 rfl rfl rfl (j := 1) (by omega) (by decide) (ld G9 rfl rfl (((sS 0 rfl hK4).drop 9).take 1) rfl ?_)
                obtain ⟨r2547, hx2548, hr2549⟩ := bd_some hr2546
                refine clS C42 rfl rfl rfl rfl (fun w H hH le => w42 s_0 r2532.2 [64] hx2548) (a1 rfl (on ?_))
                cases hr2549
                exact cu ⟨rfl, rfl, rfl, rfl, rfl, rfl, rfl, rfl, tv⟩
               ·have hr2550 := if_n hb2545 hr2544
                by_cases hb2551 : ((s2430.1 : Int) + 1) = 2
                ·have hr2552 := if_p hb2551 hr2550
                 refine iaA U113 Z9 rfl rfl rfl (j := 2) (by omega) (by decide) (ld G9 rfl rfl (((sS 0 rfl hK4).drop 10).take 1) rfl ?_)
                 obtain ⟨r2553, hx2554, hr2555⟩ := bd_some hr2552
                 refine clS C42 rfl rfl rfl rfl (fun w H hH le => w42 s_0 r2532.2 [] hx2554) (a1 rfl (on ?_))
                 cases hr2555
                 exact cu ⟨rfl, rfl, rfl, rfl, rfl, rfl, rfl, rfl, tv⟩
                ·have hr2556 := if_n hb2551 hr2550
                 by_cases hb2557 : ((s2430.1 : Int) + 1) = 3
                 ·have hr2558 := if_p hb2557 hr2556
                  refine iaA U113 Z9 rfl rfl rfl (j := 3) (by omega) (by decide) (ld G9 rfl rfl ((sS 0 rfl hK4).drop 11) rfl ?_)
                  obtain ⟨r2559, hx2560, hr2561⟩ := bd_some hr2558
                  refine clS C42 rfl rfl rfl rfl (fun w H hH le => w42 s_0 r2532.2 [] hx2560) (a1 rfl (on ?_))
                  cases hr2561
                  exact cu ⟨rfl, rfl, rfl, rfl, rfl, rfl, rfl, rfl, tv⟩
                 ·have hr2562 := if_n hb2557 hr2556
                  cases hr2562
             ·have hr2563 := if_n hb2535 hr2534
              by_cases hb2564 : (s2430.1 : Int) = 1
              ·have hr2565 := if_p hb2564 hr2563
               refine iaA U69 Z3 rfl rfl rfl (j := 1) (by omega) (by decide) (sto 2 (cs := [.int .i64 r2532.1]) Z3 rfl rfl rfl rfl rfl rfl rfl (a1 rfl (on (rg (m1 rfl (m1 rfl (m1 rfl (m1 rfl ?_))))))))
               obtain ⟨hk2566, hr2567⟩ := chk_some hr2565
               refine adI rfl rfl rfl hk2566 (iaA U114 Z113 rfl rfl rfl (j := 2) (by omega) (by decide) ?_)
               by_cases hb2568 : ((s2430.1 : Int) + 1) = 0
               ·have hr2569 := if_p hb2568 hr2567
                refine iaA U113 Z9 rfl rfl rfl (j := 0) (by omega) (by decide) (ld G9 rfl rfl (((sS 0 rfl hK4).drop 8).take 1) rfl ?_)
                obtain ⟨r2570, hx2571, hr2572⟩ := bd_some hr2569
                refine clS C42 rfl rfl rfl rfl (fun w H hH le => w42 s_0 r2532.2 [] hx2571) (a1 rfl (on ?_))
                cases hr2572
                exact cu ⟨rfl, rfl, rfl, rfl, rfl, rfl, rfl, rfl, tv⟩
               ·have hr2573 := if_n hb2568 hr2567
                by_cases hb2574 : ((s2430.1 : Int) + 1) = 1
                ·have hr2575 := if_p hb2574 hr2573
                 refine iaA U113 Z9 rfl rfl rfl (j := 1) (by omega) (by decide) (ld G9 rfl rfl (((sS 0 rfl hK4).drop 9).take 1) rfl ?_)
                 obtain ⟨r2576, hx2577, hr2578⟩ := bd_some hr2575
                 refine clS C42 rfl rfl rfl rfl (fun w H hH le => w42 s_0 r2532.2 [64] hx2577) (a1 rfl (on ?_))
                 cases hr2578
                 exact cu ⟨rfl, rfl, rfl, rfl, rfl, rfl, rfl, rfl, tv⟩
                ·have hr2579 := if_n hb2574 hr2573
                 by_cases hb2580 : ((s2430.1 : Int) + 1) = 2
                 ·have hr2581 := if_p hb2580 hr2579
                  refine iaA U113 Z9 rfl rfl rfl (j := 2) (by omega) (by decide) (ld G9 rfl rfl (((sS 0 rfl hK4).drop 10).take 1) rfl ?_)
                  obtain ⟨r2582, hx2583, hr2584⟩ := bd_some hr2581
                  refine clS C42 rfl rfl rfl rfl (fun w H hH le => w42 s_0 r2532.2 [] hx2583) (a1 rfl (on ?_))
                  cases hr2584
                  exact cu ⟨rfl, rfl, rfl, rfl, rfl, rfl, rfl, rfl, tv⟩
                 ·have hr2585 := if_n hb2580 hr2579
                  by_cases hb2586 : ((s2430.1 : Int) + 1) = 3
                  ·have hr2587 := if_p hb2586 hr2585
                   refine iaA U113 Z9 rfl rfl rfl (j := 3) (by omega) (by decide) (ld G9 rfl rfl ((sS 0 rfl hK4).drop 11) rfl ?_)
                   obtain ⟨r2588, hx2589, hr2590⟩ := bd_some hr2587
                   refine clS C42 rfl rfl rfl rfl (fun w H hH le => w42 s_0 r2532.2 [] hx2589) (a1 rfl (on ?_))
                   cases hr2590
                   exact cu ⟨rfl, rfl, rfl, rfl, rfl, rfl, rfl, rfl, tv⟩
                  ·have hr2591 := if_n hb2586 hr2585
                   cases hr2591
              ·have hr2592 := if_n hb2564 hr2563
               by_cases hb2593 : (s2430.1 : Int) = 2
               ·have hr2594 := if_p hb2593 hr2592
                refine iaA U69 Z3 rfl rfl rfl (j := 2) (by omega) (by decide) (sto 2 (cs := [.int .i64 r2532.1]) Z3 rfl rfl rfl rfl rfl rfl rfl (a1 rfl (on (rg (m1 rfl (m1 rfl (m1 rfl (m1 rfl ?_))))))))
                obtain ⟨hk2595, hr2596⟩ := chk_some hr2594
                refine adI rfl rfl rfl hk2595 (iaA U114 Z113 rfl rfl rfl (j := 2) (by omega) (by decide) ?_)
                by_cases hb2597 : ((s2430.1 : Int) + 1) = 0
                ·have hr2598 := if_p hb2597 hr2596
                 refine iaA U113 Z9 rfl rfl rfl (j := 0) (by omega) (by decide) (ld G9 rfl rfl (((sS 0 rfl hK4).drop 8).take 1) rfl ?_)
                 obtain ⟨r2599, hx2600, hr2601⟩ := bd_some hr2598
                 refine clS C42 rfl rfl rfl rfl (fun w H hH le => w42 s_0 r2532.2 [] hx2600) (a1 rfl (on ?_))
                 cases hr2601
                 exact cu ⟨rfl, rfl, rfl, rfl, rfl, rfl, rfl, rfl, tv⟩
                ·have hr2602 := if_n hb2597 hr2596
                 by_cases hb2603 : ((s2430.1 : Int) + 1) = 1
                 ·have hr2604 := if_p hb2603 hr2602
                  refine iaA U113 Z9 rfl rfl rfl (j := 1) (by omega) (by decide) (ld G9 rfl rfl (((sS 0 rfl hK4).drop 9).take 1) rfl ?_)
                  obtain ⟨r2605, hx2606, hr2607⟩ := bd_some hr2604
                  refine clS C42 rfl rfl rfl rfl (fun w H hH le => w42 s_0 r2532.2 [64] hx2606) (a1 rfl (on ?_))
                  cases hr2607
                  exact cu ⟨rfl, rfl, rfl, rfl, rfl, rfl, rfl, rfl, tv⟩
                 ·have hr2608 := if_n hb2603 hr2602
                  by_cases hb2609 : ((s2430.1 : Int) + 1) = 2
                  ·have hr2610 := if_p hb2609 hr2608
                   refine iaA U113 Z9 rfl rfl rfl (j := 2) (by omega) (by decide) (ld G9 rfl rfl (((sS 0 rfl hK4).drop 10).take 1) rfl ?_)
                   obtain ⟨r2611, hx2612, hr2613⟩ := bd_some hr2610
                   refine clS C42 rfl rfl rfl rfl (fun w H hH le => w42 s_0 r2532.2 [] hx2612) (a1 rfl (on ?_))
                   cases hr2613
                   exact cu ⟨rfl, rfl, rfl, rfl, rfl, rfl, rfl, rfl, tv⟩
                  ·have hr2614 := if_n hb2609 hr2608
                   by_cases hb2615 : ((s2430.1 : Int) + 1) = 3
                   ·have hr2616 := if_p hb2615 hr2614
                    refine iaA U113 Z9 rfl rfl rfl (j := 3) (by omega) (by decide) (ld G9 rfl rfl ((sS 0 rfl hK4).drop 11) rfl ?_)
                    obtain ⟨r2617, hx2618, hr2619⟩ := bd_some hr2616
                    refine clS C42 rfl rfl rfl rfl (fun w H hH le => w42 s_0 r2532.2 [] hx2618) (a1 rfl (on ?_))
                    cases hr2619
                    exact cu ⟨rfl, rfl, rfl, rfl, rfl, rfl, rfl, rfl, tv⟩
                   ·have hr2620 := if_n hb2615 hr2614
                    cases hr2620
               ·have hr2621 := if_n hb2593 hr2592
                cases hr2621
            ·rintro a w ⟨hS, hA⟩
             refine TG.ap ?_ hS hA
             refine rg (m1 rfl ?_)
             obtain ⟨hk2622, hr2623⟩ := chk_some hr2531
             refine adI rfl rfl rfl hk2622 (a1 rfl (on ?_))
             cases hr2623
             intro a w hS hA
             exact ⟨_, hz2432, hS, hA.cut ⟨rfl, rfl, rfl, rfl, rfl, rfl, rfl, rfl, tv⟩⟩
           ·have hr2624 := if_n hc2437 hr2431
            refine xt rfl ?_
            cases hr2624
            obtain rfl := Fin.out hz2432
            exact cu ⟨rfl, rfl, rfl, rfl, rfl, rfl, tv⟩
         ·rintro a w ⟨hS, hA⟩
          refine TG.ap ?_ hS hA
          refine sq ?_
          obtain ⟨t2628, hx2629, hr2630⟩ := bd_some hr2429
          refine jn (fun a w => St M W (hp W) [K3, (hp W)] [(2, cel b1388 69 [.int .i64 e2427.2.1, .int .i64 e2427.2.2.1, .int .i64 e2427.2.2.2]), (1, cel b1 69 [.int .i64 0, .int .i64 0, .int .i64 0])] w ∧ Has [] 66 a [(0, .string (bs s_0)), (3, .pointer (some (⟨b1, 0, none⟩))), (5, .pointer (some q2)), (6, .int .i64 (s743 : Int)), (7, .pointer (some (⟨b1388, 0, none⟩))), (61, .bool t2628)]) ?_ ?_
          ·refine rg (m1 rfl (m1 rfl (lnS U9 rfl rfl (eqI rfl rfl rfl (m1 rfl ?_)))))
           by_cases hb2631 : e2427.1 = (s_0.length : Int)
           ·have hr2632 := if_p hb2631 hx2629
            refine gt hb2631 rfl (m1 rfl (gt hb2631 rfl (eqI rfl rfl rfl (gt hb2631 rfl (m1 rfl (gt' hb1398 rfl (iaA U69 Z3 rfl rfl rfl (j := 1) rfl (by decide) (gt' hb1398 rfl (ld G3 rfl rfl (((sO 2 rfl).drop 1).take 1) rfl (gt' hb1398 rfl (leI rfl rfl rfl ?_)))))))))))
            refine gt hb2631 rfl (pf hb1398 rfl rfl (pt hb2631 rfl rfl (on ?_)))
            cases hr2632
            exact cu ⟨rfl, rfl, rfl, rfl, rfl, rfl, tv⟩
           ·have hr2633 := if_n hb2631 hx2629
            refine gf hb2631 rfl (gf hb2631 rfl (gf hb2631 rfl (gU rfl rfl rfl (gU rfl rfl rfl (gU rfl rfl rfl (gf hb2631 rfl (pf hb2631 rfl rfl (on ?_))))))))
            cases hr2633
            exact cu ⟨rfl, rfl, rfl, rfl, rfl, rfl, tv⟩
          ·rintro a w ⟨hS, hA⟩
           refine TG.ap ?_ hS hA
           refine cb rfl (fun hc2638 => ?_) (fun hc2638 => ?_)
           ·have hr2639 := if_p hc2638 hr2630
            refine sq (drG 4 mixed (by kernel_rfl) rfl (dt rfl (m1 rfl fin1) (dt rfl (cvI U3 U5 rfl rfl (wr_u8 (by omega)) fin1) (dt rfl (ldA G69 Z69 rfl rfl (sO 2 rfl) rfl fin1) (dt rfl (a1 rfl fin1) (DF.nil fun K2640 hF => (sto 1 (cs := [.int .i64 e2427.2.1, .int .i64 e2427.2.2.1, .int .i64 e2427.2.2.2]) Z69 rfl rfl rfl rfl rfl rfl rfl (a1 rfl (on (rt_ ?_))))))))))
            cases hr2639
            cases hr1386
            obtain rfl := Fin.out hz745
            cases hr741
            intro a w hS hA
            refine rc3 hA rfl (ResAt.tmp rfl) (ResAt.cell rfl (loadsA G69 Z69 (cell_at (hS.get (t := 1) rfl)) rfl)) (ResAt.tmp rfl) ?_
            exact ⟨rfl, hS.ext⟩
           ·have hr2641 := if_f hc2638 hr2630
            refine sk (TG.del 2 ?_)
            cases hr2641
            intro a w hS hA
            exact ⟨_, rfl, hS, hA.cut ⟨rfl, rfl, rfl, rfl, tv⟩⟩
        ·have hr2642 := if_n hb2228 hr2227
         cases hr2642
    ·rintro a w ⟨t1387, rfl, hS, hA⟩
     refine TG.ap ?_ hS hA
     refine rg (m1 rfl (adI rfl rfl rfl (by omega) (a1 rfl (on ?_))))
     cases hr1386
     intro a w hS hA
     exact ⟨_, hz745, hS, hA.cut ⟨rfl, rfl, rfl, rfl, tv⟩⟩
   ·have hr2643 := if_n hc750 hr744
    refine xt rfl ?_
    cases hr2643
    obtain rfl := Fin.out hz745
    intro a w hS hA
    exact ⟨_, rfl, hS, hA.cut ⟨rfl, tv⟩⟩
 ·rintro a w ⟨t742, rfl, hS, hA⟩
  refine TG.ap ?_ hS hA
  refine sq (rg (buA (cs := [.int .i64 0, .int .i64 0, .int .i64 0]) T10.B69 rfl rfl rfl (a1 rfl (sto 1 (cs := [.int .i64 0, .int .i64 0, .int .i64 0]) Z69 rfl rfl rfl rfl rfl rfl rfl (a1 rfl (on (rt_ ?_)))))))
  cases hr741
  intro a w hS hA
  refine rc3 hA rfl (ResAt.tmp rfl) (ResAt.cell rfl (loadsA G69 Z69 (cell_at (hS.get (t := 1) rfl)) rfl)) (ResAt.tmp rfl) ?_
  exact ⟨rfl, hS.ext⟩

theorem w8 {M : Prop} {W : World} {H : Hp} (hH : H.le (hp W)) (hg : Gv M H) {cs_v_0 : List Value} (v_0 : Volume) (h_v_0 : (RVolume) H cs_v_0 v_0) {ad_errata : Option Addr} {cap_errata : Nat} {errata : List Erratum} (h_errata : Sl (Flat encErratum) 6 H ad_errata cap_errata errata) (cite : Bytes) (one : Int) (two : Int) (style : Int) {r : Bool} (hr : m8 v_0 errata cite one two style = some r) : Calls Tryz.prog 8 [.agg cs_v_0.toArray, .slice ad_errata errata.length cap_errata, .string (bs cite), .int .u8 one, .int .u8 two, .int .u8 style].toArray W (RetS M W (.bool r)) := by
 have hh_v_0 := h_v_0
 obtain ⟨ad1, cap2, rfl, hl3⟩ := h_v_0
 have := hl3.len
 have := h_errata.len
 unfold m8 at hr
 refine enterG (M := M) Tryz.func8 rfl Tryz.ntmps8 rfl hH ?_
 refine sq (rg (bI (cs := [.int .i64 v_0.number, .int .i64 v_0.bound, .int .i64 v_0.height, .int .i64 v_0.width, .slice ad1 v_0.parts.length cap2]) rfl rfl rfl fun q4 K5 hK6 => (a1 rfl (on (sq (sq ?_))))))
 obtain ⟨t13, hx14, hr15⟩ := bd_some hr
 refine jn (fun a w => St M W H [K5, H] [] w ∧ Has [] 197 a [(1, .slice ad_errata errata.length cap_errata), (2, .string (bs cite)), (3, .int .u8 one), (4, .int .u8 two), (5, .int .u8 style), (6, .pointer (some q4)), (39, .bool t13)]) ?_ ?_
 ·refine rg (ldA G24 Z24 rfl rfl (sS 0 rfl hK6) rfl (m1 rfl ?_))
  obtain ⟨r16, hx17, hr18⟩ := bd_some hx14
  refine clS C11 rfl rfl rfl rfl (fun w H hH le => w11 hH v_0 (RVolume.mono _ _ _ _ (le.at 1 rfl) hh_v_0) (h_errata.mono (Flat.mono _) (le.at 1 rfl)) hx17) (nt rfl rfl (m1 rfl ?_))
  rcases Bool.eq_false_or_eq_true (r16) with hb19 | hb19
  ·have hr20 := if_p hb19 hr18
   refine gN rfl rfl (congrArg not (hb19)) (m1 rfl (gN rfl rfl (congrArg not (hb19)) (lnS U9 rfl rfl (gN rfl rfl (congrArg not (hb19)) (gtI rfl rfl rfl (pF rfl rfl (congrArg not (hb19)) rfl (on ?_)))))))
   cases hr20
   exact cu ⟨rfl, rfl, rfl, rfl, rfl, rfl, rfl, tv⟩
  ·have hr21 := if_f hb19 hr18
   refine gF rfl rfl (congrArg not (hb19)) rfl (gF rfl rfl (congrArg not (hb19)) rfl (gF rfl rfl (congrArg not (hb19)) rfl (pT rfl rfl (congrArg not (hb19)) rfl (on ?_))))
   cases hr21
   exact cu ⟨rfl, rfl, rfl, rfl, rfl, rfl, rfl, tv⟩
 ·rintro a w ⟨hS, hA⟩
  refine TG.ap ?_ hS hA
  refine cb rfl (fun hc28 => ?_) (fun hc28 => ?_)
  ·have hr29 := if_p hc28 hr15
   refine sq (rg ?_)
   obtain ⟨r30, hx31, hr32⟩ := bd_some hr29
   refine clS C12 rfl rfl rfl rfl (fun w H hH le => w12 hH (hg.mono (le.at 1 rfl))  hx31) (a1 rfl (on (rt_ ?_)))
   cases hr32
   intro a w hS hA
   refine ret1 hA rfl rfl ?_
   exact ⟨rfl, hS.ext⟩
  ·have hr33 := if_f hc28 hr15
   refine sk (sq (rg (ldA G24 Z24 rfl rfl (sS 0 rfl hK6) rfl ?_)))
   obtain ⟨r34, hx35, hr36⟩ := bd_some hr33
   refine clK C14 rfl rfl rfl rfl (fun w H hH le => w14 hH v_0 (RVolume.mono _ _ _ _ (le.at 1 rfl) hh_v_0) hx35) ?_
   rintro v_ K37 ⟨cs38, rfl, hr39⟩
   have hr40 := hr39
   obtain ⟨ad41, cap42, rfl, hl43⟩ := hr39
   have := hl43.len
   refine m1 rfl ?_
   obtain ⟨r44, hx45, hr46⟩ := bd_some hr36
   refine clK C15 rfl rfl rfl rfl (fun w H hH le => w15 hH (h_errata.mono (Flat.mono _) (le.at 2 rfl)) hx45) ?_
   rintro v_ K47 ⟨ad48, cap49, rfl, hl50⟩
   have := hl50.len
   refine m1 rfl ?_
   obtain ⟨r51, hx52, hr53⟩ := bd_some hr46
   refine clS C21 rfl rfl rfl rfl (fun w H hH le => w21 hH (hg.mono (le.at 3 rfl)) r34 (RVolume.mono _ _ _ _ (le.at 1 rfl) hr40) (hl50.mono (Flat.mono _) (le.at 0 rfl)) cite hx52) (m1 rfl (ex rfl rfl rfl (ex rfl rfl rfl (ex rfl rfl rfl (a1 rfl (a1 rfl (a1 rfl (on (sq (rg (ldA G24 Z24 rfl rfl (sS 2 rfl hK6) rfl ?_)))))))))))
   refine clK C14 rfl rfl rfl rfl (fun w H hH le => w14 hH v_0 (RVolume.mono _ _ _ _ (le.at 3 rfl) hh_v_0) hx35) ?_
   rintro v_ K54 ⟨cs55, rfl, hr56⟩
   have hr57 := hr56
   obtain ⟨ad58, cap59, rfl, hl60⟩ := hr56
   have := hl60.len
   refine m1 rfl (clK C15 rfl rfl rfl rfl (fun w H hH le => w15 hH (h_errata.mono (Flat.mono _) (le.at 4 rfl)) hx45) ?_)
   rintro v_ K61 ⟨ad62, cap63, rfl, hl64⟩
   have := hl64.len
   obtain ⟨r65, hx66, hr67⟩ := bd_some hr53
   refine clK C17 rfl rfl rfl rfl (fun w H hH le => w17 hH r34 (RVolume.mono _ _ _ _ (le.at 1 rfl) hr57) (hl64.mono (Flat.mono _) (le.at 0 rfl)) hx66) ?_
   rintro v_ K68 ⟨ad69, cap70, rfl, hl71⟩
   have := hl71.len
   refine m1 rfl (ex rfl rfl rfl (ex rfl rfl rfl (a1 rfl (a1 rfl (on (sq (sq (rg (m1 rfl (neI rfl rfl rfl (on ?_)))))))))))
   refine ci rfl (fun hc75 => ?_) (fun hc75 => ?_)
   ·have hr76 := if_p hc75 hr67
    refine sq (rg (a1 rfl (on (rt_ ?_))))
    cases hr76
    intro a w hS hA
    refine ret1 hA rfl rfl ?_
    exact ⟨rfl, hS.ext⟩
   ·have hr77 := if_n hc75 hr67
    refine sk (sq (sq (rg (m1 rfl (eqI rfl rfl rfl (on ?_))))))
    obtain ⟨t143, hx144, hr145⟩ := bd_some hr77
    refine jn (fun a w => ∃ t146, t143 = .inl t146 ∧ St M W H [K68, K61, K54, K47, K37, K5, H] [] w ∧ Has [] 197 a [(1, .slice ad_errata errata.length cap_errata), (3, .int .u8 one), (4, .int .u8 two), (5, .int .u8 style), (6, .pointer (some q4)), (16, .slice ad69 r65.1.length cap70)]) ?_ ?_
    ·refine ci rfl (fun hc147 => ?_) (fun hc147 => ?_)
     ·have hr148 := if_p hc147 hx144
      refine sq (rg (m1 rfl ?_))
      obtain ⟨r149, hx150, hr151⟩ := bd_some hr148
      refine clS C24 rfl rfl rfl rfl (fun w H hH le => w24 cite hx150) (m1 rfl (ex rfl rfl rfl (ex rfl rfl rfl (ex rfl rfl rfl (al 1 (cs := [.int .i64 0, .int .i64 0, .int .i64 0]) Tryz.zeroValue69 rfl rfl fun b152 => (a1 rfl (sto 1 (cs := [.int .i64 r149.2.1.e0, .int .i64 r149.2.1.e1, .int .i64 r149.2.1.e2]) Z69 rfl rfl rfl rfl rfl rfl rfl (a1 rfl (on (sq (rg ?_)))))))))))
      refine ldA G24 Z24 rfl rfl (sS 5 rfl hK6) rfl (clK C14 rfl rfl rfl rfl (fun w H hH le => w14 hH v_0 (RVolume.mono _ _ _ _ (le.at 6 rfl) hh_v_0) hx35) ?_)
      rintro v_ K153 ⟨cs154, rfl, hr155⟩
      have hr156 := hr155
      obtain ⟨ad157, cap158, rfl, hl159⟩ := hr155
      have := hl159.len
      refine m1 rfl (clK C15 rfl rfl rfl rfl (fun w H hH le => w15 hH (h_errata.mono (Flat.mono _) (le.at 7 rfl)) hx45) ?_)
      rintro v_ K160 ⟨ad161, cap162, rfl, hl163⟩
      have := hl163.len
      refine m1 rfl (m1 rfl (m1 rfl ?_))
      obtain ⟨r164, hx165, hr166⟩ := bd_some hr151
      refine clS C20 rfl rfl rfl rfl (fun w H hH le => w20 hH (hg.mono (le.at 8 rfl)) r34 (RVolume.mono _ _ _ _ (le.at 1 rfl) hr156) (hl163.mono (Flat.mono _) (le.at 0 rfl)) r51.1 r149.1 r51.2.1 hx165) (m1 rfl (ex rfl rfl rfl (ex rfl rfl rfl (a1 rfl (a1 rfl (on (sq (sq ?_))))))))
      obtain ⟨t170, hx171, hr172⟩ := bd_some hr166
      refine jn (fun a w => St M W H [K160, K153, K68, K61, K54, K47, K37, K5, H] [(1, cel b152 69 [.int .i64 r149.2.1.e0, .int .i64 r149.2.1.e1, .int .i64 r149.2.1.e2])] w ∧ Has [] 197 a [(1, .slice ad_errata errata.length cap_errata), (2, .string (bs cite)), (3, .int .u8 one), (4, .int .u8 two), (5, .int .u8 style), (6, .pointer (some q4)), (13, .int .i64 r51.1), (16, .slice ad69 r65.1.length cap70), (18, .int .u8 r149.1), (19, .pointer (some (⟨b152, 0, none⟩))), (21, .string (bs r164.1)), (85, .bool t170)]) ?_ ?_
      ·refine rg (m1 rfl (nt rfl rfl (m1 rfl ?_)))
       rcases Bool.eq_false_or_eq_true (r149.2.2) with hb173 | hb173
       ·have hr174 := if_p hb173 hx171
        refine gN rfl rfl (congrArg not (hb173)) (m1 rfl (gN rfl rfl (congrArg not (hb173)) (neI rfl rfl rfl (pF rfl rfl (congrArg not (hb173)) rfl (on ?_)))))
        cases hr174
        exact cu ⟨rfl, rfl, rfl, rfl, rfl, rfl, rfl, rfl, rfl, rfl, rfl, rfl, tv⟩
       ·have hr175 := if_f hb173 hx171
        refine gF rfl rfl (congrArg not (hb173)) rfl (gF rfl rfl (congrArg not (hb173)) rfl (pT rfl rfl (congrArg not (hb173)) rfl (on ?_)))
        cases hr175
        exact cu ⟨rfl, rfl, rfl, rfl, rfl, rfl, rfl, rfl, rfl, rfl, rfl, rfl, tv⟩
      ·rintro a w ⟨hS, hA⟩
       refine TG.ap ?_ hS hA
       refine cb rfl (fun hc179 => ?_) (fun hc179 => ?_)
       ·have hr180 := if_p hc179 hr172
        refine sq (rg (a1 rfl (on (rt_ ?_))))
        cases hr180
        cases hr145
        intro a w hS hA
        refine ret1 hA rfl rfl ?_
        exact ⟨rfl, hS.ext⟩
       ·have hr181 := if_f hc179 hr172
        refine sk (sq (rg (m1 rfl (neI rfl rfl rfl (a1 rfl (on (sq (sq (rg (a1 rfl (on ?_)))))))))))
        obtain ⟨e208, hl209, hr210⟩ := bd_some hr181
        refine jn (fun a w => St M W H [K160, K153, K68, K61, K54, K47, K37, K5, H] [(1, cel b152 69 [.int .i64 r149.2.1.e0, .int .i64 r149.2.1.e1, .int .i64 r149.2.1.e2])] w ∧ Has [] 197 a [(1, .slice ad_errata errata.length cap_errata), (2, .string (bs cite)), (3, .int .u8 one), (4, .int .u8 two), (5, .int .u8 style), (6, .pointer (some q4)), (16, .slice ad69 r65.1.length cap70), (21, .string (bs r164.1)), (23, .bool e208)]) ?_ ?_
        ·refine bk ?_
         refine lp hl209 (fun s211 a w => St M W H [K160, K153, K68, K61, K54, K47, K37, K5, H] [(1, cel b152 69 [.int .i64 r149.2.1.e0, .int .i64 r149.2.1.e1, .int .i64 r149.2.1.e2])] w ∧ Has [] 197 a [(1, .slice ad_errata errata.length cap_errata), (2, .string (bs cite)), (3, .int .u8 one), (4, .int .u8 two), (5, .int .u8 style), (6, .pointer (some q4)), (13, .int .i64 r51.1), (16, .slice ad69 r65.1.length cap70), (19, .pointer (some (⟨b152, 0, none⟩))), (21, .string (bs r164.1)), (23, .bool s211.2), (24, .int .i64 (s211.1 : Int))]) ?_ ?_
         ·exact cu ⟨rfl, rfl, rfl, rfl, rfl, rfl, rfl, rfl, rfl, rfl, rfl, rfl, tv⟩
         ·rintro j s211 y214 hr212 hz213 a w ⟨hS, hA⟩
          refine TG.ap ?_ hS hA
          unfold m8_1 at hr212
          refine sq (sq (rg (m1 rfl (m1 rfl (lnL U42 rfl rfl (ltI rfl rfl rfl (on ?_)))))))
          refine ci rfl (fun hc218 => ?_) (fun hc218 => ?_)
          ·have hr219 := if_p hc218 hr212
           refine sk (sq (bk ?_))
           obtain ⟨t263, hx264, hr265⟩ := bd_some hr219
           refine jn (fun a w => St M W H [K160, K153, K68, K61, K54, K47, K37, K5, H] [(1, cel b152 69 [.int .i64 r149.2.1.e0, .int .i64 r149.2.1.e1, .int .i64 r149.2.1.e2])] w ∧ Has [] 197 a [(1, .slice ad_errata errata.length cap_errata), (2, .string (bs cite)), (3, .int .u8 one), (4, .int .u8 two), (5, .int .u8 style), (6, .pointer (some q4)), (13, .int .i64 r51.1), (16, .slice ad69 r65.1.length cap70), (19, .pointer (some (⟨b152, 0, none⟩))), (21, .string (bs r164.1)), (23, .bool t263), (24, .int .i64 (s211.1 : Int))]) ?_ ?_
           ·rcases Bool.eq_false_or_eq_true (s211.2) with hb266 | hb266
            ·have hr267 := if_p hb266 hx264
             refine drG 27 mixed (by kernel_rfl) rfl (dt rfl (m1 rfl fin1) (dt rfl (m1 rfl fin1) (dt rfl (gF rfl rfl (hb266) rfl fin1) (dt rfl (gF rfl rfl (hb266) rfl fin1) (dt rfl (gF rfl rfl (hb266) rfl fin1) (dt rfl (gF rfl rfl (hb266) rfl fin1) (dt rfl (gF rfl rfl (hb266) rfl fin1) (dt rfl (gF rfl rfl (hb266) rfl fin1) (dt rfl (gF rfl rfl (hb266) rfl fin1) (dt rfl (gF rfl rfl (hb266) rfl fin1) (dt rfl (gU rfl rfl rfl fin1) ?_)))))))))))
             refine dt rfl (gU rfl rfl rfl fin1) (dt rfl (gU rfl rfl rfl fin1) (dt rfl (gU rfl rfl rfl fin1) (dt rfl (gU rfl rfl rfl fin1) (dt rfl (gU rfl rfl rfl fin1) (dt rfl (gU rfl rfl rfl fin1) (dt rfl (gU rfl rfl rfl fin1) (dt rfl (gF rfl rfl (hb266) rfl fin1) (dt rfl (gF rfl rfl (hb266) rfl fin1) (dt rfl (gU rfl rfl rfl fin1) (dt rfl (gU rfl rfl rfl fin1) (dt rfl (gU rfl rfl rfl fin1) ?_)))))))))))
             refine dt rfl (gU rfl rfl rfl fin1) (dt rfl (gU rfl rfl rfl fin1) (dt rfl (gU rfl rfl rfl fin1) (dt rfl (gU rfl rfl rfl fin1) (DF.nil fun K268 hF => (gU rfl rfl rfl (gF rfl rfl (hb266) rfl (pT rfl rfl (hb266) rfl (a1 rfl (on ?_)))))))))
             cases hr267
             intro a w hS hA
             exact ⟨hS.selH [1, 2, 3, 4, 5, 6, 7, 8, 9] rfl, hA.cut ⟨rfl, rfl, rfl, rfl, rfl, rfl, rfl, rfl, rfl, rfl, rfl, rfl, tv⟩⟩
            ·have hr269 := if_f hb266 hx264
             obtain ⟨x270, hx271, hr272⟩ := bd_some hr269
             obtain ⟨p273, rfl⟩ := hl71.adr hx271
             obtain ⟨cs274, hcs275, hq276, hr277⟩ := hl71.at hx271
             obtain rfl := hr277
             by_cases hb278 : x270.anchor = r51.1
             ·have hr279 := if_p hb278 hr272
              by_cases hb280 : x270.column = r149.2.1.e1
              ·have hr281 := if_p hb280 hr279
               refine drG 27 mixed (by kernel_rfl) rfl (dt rfl (m1 rfl fin1) (dt rfl (m1 rfl fin1) (dt rfl (gN rfl rfl (hb266) (m1 rfl fin1)) (dt rfl (gN rfl rfl (hb266) (m1 rfl fin1)) (dt rfl (gN rfl rfl (hb266) (iaP U42 Z63 rfl rfl rfl rfl (lt_of hx271) fin1)) (dt rfl (gN rfl rfl (hb266) (fb 0 U63 rfl rfl rfl rfl Z3 fin1)) (dt rfl (gN rfl rfl (hb266) (ld G3 rfl rfl ((sS 3 rfl hq276).take 1) rfl fin1)) (dt rfl (gN rfl rfl (hb266) (m1 rfl fin1)) (dt rfl (gN rfl rfl (hb266) (eqI rfl rfl rfl fin1)) (dt rfl (gN rfl rfl (hb266) (m1 rfl fin1)) (dt rfl (gt hb278 rfl (m1 rfl fin1)) ?_)))))))))))
               refine dt rfl (gt hb278 rfl (m1 rfl fin1)) (dt rfl (gt hb278 rfl (iaP U42 Z63 rfl rfl rfl rfl (lt_of hx271) fin1)) (dt rfl (gt hb278 rfl (fb 1 U63 rfl rfl rfl rfl Z3 fin1)) (dt rfl (gt hb278 rfl (ld G3 rfl rfl (((sS 3 rfl hq276).drop 1).take 1) rfl fin1)) (dt rfl (gt hb278 rfl (iaA U69 Z3 rfl rfl rfl (j := 1) rfl (by decide) fin1)) (dt rfl (gt hb278 rfl (ld G3 rfl rfl (((sO 1 rfl).drop 1).take 1) rfl fin1)) (dt rfl (gt hb278 rfl (eqI rfl rfl rfl fin1)) (dt rfl (gN rfl rfl (hb266) (pt hb278 rfl rfl fin1)) (dt rfl (gN rfl rfl (hb266) (m1 rfl fin1)) (dt rfl (gt hb280 rfl (m1 rfl fin1)) (dt rfl (gt hb280 rfl (m1 rfl fin1)) (dt rfl (gt hb280 rfl (iaP U42 Z63 rfl rfl rfl rfl (lt_of hx271) fin1)) ?_)))))))))))
               refine dt rfl (gt hb280 rfl (fb 2 U63 rfl rfl rfl rfl Z3 fin1)) (dt rfl (gt hb280 rfl (ld G3 rfl rfl (((sS 3 rfl hq276).drop 2).take 1) rfl fin1)) (dt rfl (gt hb280 rfl (iaA U69 Z3 rfl rfl rfl (j := 2) rfl (by decide) fin1)) (dt rfl (gt hb280 rfl (ld G3 rfl rfl ((sO 1 rfl).drop 2) rfl fin1)) (DF.nil fun K282 hF => (gt hb280 rfl (eqI rfl rfl rfl (gN rfl rfl (hb266) (pt hb280 rfl rfl (pF rfl rfl (hb266) rfl (a1 rfl (on ?_)))))))))))
               cases hr281
               intro a w hS hA
               exact ⟨hS.selH [1, 2, 3, 4, 5, 6, 7, 8, 9] rfl, hA.cut ⟨rfl, rfl, rfl, rfl, rfl, rfl, rfl, rfl, rfl, rfl, rfl, rfl, tv⟩⟩
              ·have hr283 := if_n hb280 hr279
               refine drG 27 mixed (by kernel_rfl) rfl (dt rfl (m1 rfl fin1) (dt rfl (m1 rfl fin1) (dt rfl (gN rfl rfl (hb266) (m1 rfl fin1)) (dt rfl (gN rfl rfl (hb266) (m1 rfl fin1)) (dt rfl (gN rfl rfl (hb266) (iaP U42 Z63 rfl rfl rfl rfl (lt_of hx271) fin1)) (dt rfl (gN rfl rfl (hb266) (fb 0 U63 rfl rfl rfl rfl Z3 fin1)) (dt rfl (gN rfl rfl (hb266) (ld G3 rfl rfl ((sS 3 rfl hq276).take 1) rfl fin1)) (dt rfl (gN rfl rfl (hb266) (m1 rfl fin1)) (dt rfl (gN rfl rfl (hb266) (eqI rfl rfl rfl fin1)) (dt rfl (gN rfl rfl (hb266) (m1 rfl fin1)) (dt rfl (gt hb278 rfl (m1 rfl fin1)) ?_)))))))))))
               refine dt rfl (gt hb278 rfl (m1 rfl fin1)) (dt rfl (gt hb278 rfl (iaP U42 Z63 rfl rfl rfl rfl (lt_of hx271) fin1)) (dt rfl (gt hb278 rfl (fb 1 U63 rfl rfl rfl rfl Z3 fin1)) (dt rfl (gt hb278 rfl (ld G3 rfl rfl (((sS 3 rfl hq276).drop 1).take 1) rfl fin1)) (dt rfl (gt hb278 rfl (iaA U69 Z3 rfl rfl rfl (j := 1) rfl (by decide) fin1)) (dt rfl (gt hb278 rfl (ld G3 rfl rfl (((sO 1 rfl).drop 1).take 1) rfl fin1)) (dt rfl (gt hb278 rfl (eqI rfl rfl rfl fin1)) (dt rfl (gN rfl rfl (hb266) (pt hb278 rfl rfl fin1)) (dt rfl (gN rfl rfl (hb266) (m1 rfl fin1)) (dt rfl (gf hb280 rfl fin1) (dt rfl (gf hb280 rfl fin1) (dt rfl (gf hb280 rfl fin1) ?_)))))))))))
               refine dt rfl (gf hb280 rfl fin1) (dt rfl (gf hb280 rfl fin1) (dt rfl (gf hb280 rfl fin1) (dt rfl (gf hb280 rfl fin1) (DF.nil fun K284 hF => (gf hb280 rfl (gN rfl rfl (hb266) (pf hb280 rfl rfl (pF rfl rfl (hb266) rfl (a1 rfl (on ?_))))))))))
               cases hr283
               intro a w hS hA
               exact ⟨hS.selH [1, 2, 3, 4, 5, 6, 7, 8, 9] rfl, hA.cut ⟨rfl, rfl, rfl, rfl, rfl, rfl, rfl, rfl, rfl, rfl, rfl, rfl, tv⟩⟩
             ·have hr285 := if_n hb278 hr272
              refine drG 27 mixed (by kernel_rfl) rfl (dt rfl (m1 rfl fin1) (dt rfl (m1 rfl fin1) (dt rfl (gN rfl rfl (hb266) (m1 rfl fin1)) (dt rfl (gN rfl rfl (hb266) (m1 rfl fin1)) (dt rfl (gN rfl rfl (hb266) (iaP U42 Z63 rfl rfl rfl rfl (lt_of hx271) fin1)) (dt rfl (gN rfl rfl (hb266) (fb 0 U63 rfl rfl rfl rfl Z3 fin1)) (dt rfl (gN rfl rfl (hb266) (ld G3 rfl rfl ((sS 3 rfl hq276).take 1) rfl fin1)) (dt rfl (gN rfl rfl (hb266) (m1 rfl fin1)) (dt rfl (gN rfl rfl (hb266) (eqI rfl rfl rfl fin1)) (dt rfl (gN rfl rfl (hb266) (m1 rfl fin1)) (dt rfl (gf hb278 rfl fin1) ?_)))))))))))
              refine dt rfl (gf hb278 rfl fin1) (dt rfl (gf hb278 rfl fin1) (dt rfl (gf hb278 rfl fin1) (dt rfl (gf hb278 rfl fin1) (dt rfl (gf hb278 rfl fin1) (dt rfl (gf hb278 rfl fin1) (dt rfl (gf hb278 rfl fin1) (dt rfl (gN rfl rfl (hb266) (pf hb278 rfl rfl fin1)) (dt rfl (gN rfl rfl (hb266) (m1 rfl fin1)) (dt rfl (gF rfl rfl rfl rfl fin1) (dt rfl (gF rfl rfl rfl rfl fin1) (dt rfl (gF rfl rfl rfl rfl fin1) ?_)))))))))))
              refine dt rfl (gF rfl rfl rfl rfl fin1) (dt rfl (gF rfl rfl rfl rfl fin1) (dt rfl (gF rfl rfl rfl rfl fin1) (dt rfl (gF rfl rfl rfl rfl fin1) (DF.nil fun K286 hF => (gF rfl rfl rfl rfl (gN rfl rfl (hb266) (pF rfl rfl rfl rfl (pF rfl rfl (hb266) rfl (a1 rfl (on ?_))))))))))
              cases hr285
              intro a w hS hA
              exact ⟨hS.selH [1, 2, 3, 4, 5, 6, 7, 8, 9] rfl, hA.cut ⟨rfl, rfl, rfl, rfl, rfl, rfl, rfl, rfl, rfl, rfl, rfl, rfl, tv⟩⟩
           ·rintro a w ⟨hS, hA⟩
            refine TG.ap ?_ hS hA
            refine rg (m1 rfl (adI rfl rfl rfl (by omega) (a1 rfl (on ?_))))
            cases hr265
            intro a w hS hA
            exact ⟨_, hz213, hS, hA.cut ⟨rfl, rfl, rfl, rfl, rfl, rfl, rfl, rfl, rfl, rfl, rfl, rfl, tv⟩⟩
          ·have hr287 := if_n hc218 hr212
           refine xt rfl ?_
           cases hr287
           obtain rfl := Fin.out hz213
           exact cu ⟨rfl, rfl, rfl, rfl, rfl, rfl, rfl, rfl, rfl, tv⟩
        ·rintro a w ⟨hS, hA⟩
         refine TG.ap ?_ hS hA
         refine sq (rg (m1 rfl (m1 rfl (m1 rfl (eqS rfl rfl rfl (neB U4 rfl rfl rfl (on ?_)))))))
         refine cb rfl (fun hc291 => ?_) (fun hc291 => ?_)
         ·replace hc291 := nbt hc291
          have hr292 := if_f hc291 hr210
          refine sq (rg (a1 rfl (on (rt_ ?_))))
          cases hr292
          cases hr145
          intro a w hS hA
          refine ret1 hA rfl rfl ?_
          exact ⟨rfl, hS.ext⟩
         ·replace hc291 := nbf hc291
          have hr293 := if_p hc291 hr210
          refine sk (TG.del 1 ?_)
          cases hr293
          intro a w hS hA
          exact ⟨_, rfl, hS.selH [2, 3, 4, 5, 6, 7, 8] rfl, hA.cut ⟨rfl, rfl, rfl, rfl, rfl, rfl, tv⟩⟩
     ·have hr294 := if_n hc147 hx144
      refine sq ?_
      obtain ⟨t298, hx299, hr300⟩ := bd_some hr294
      refine jn (fun a w => St M W H [K68, K61, K54, K47, K37, K5, H] [] w ∧ Has [] 197 a [(1, .slice ad_errata errata.length cap_errata), (3, .int .u8 one), (4, .int .u8 two), (5, .int .u8 style), (6, .pointer (some q4)), (16, .slice ad69 r65.1.length cap70), (134, .bool t298)]) ?_ ?_
      ·refine rg (m1 rfl (neI rfl rfl rfl (m1 rfl ?_)))
       by_cases hb301 : r51.2.2 ≠ 4
       ·have hr302 := if_p hb301 hx299
        refine gt hb301 rfl (m1 rfl (gt hb301 rfl (neI rfl rfl rfl (pt hb301 rfl rfl (on ?_)))))
        cases hr302
        exact cu ⟨rfl, rfl, rfl, rfl, rfl, rfl, rfl, tv⟩
       ·have hr303 := if_n hb301 hx299
        refine gf hb301 rfl (gf hb301 rfl (pf hb301 rfl rfl (on ?_)))
        cases hr303
        exact cu ⟨rfl, rfl, rfl, rfl, rfl, rfl, rfl, tv⟩
      ·rintro a w ⟨hS, hA⟩
       refine TG.ap ?_ hS hA
       refine cb rfl (fun hc307 => ?_) (fun hc307 => ?_)
       ·have hr308 := if_p hc307 hr300
        refine sq (rg (a1 rfl (on (rt_ ?_))))
        cases hr308
        cases hr145
        intro a w hS hA
        refine ret1 hA rfl rfl ?_
        exact ⟨rfl, hS.ext⟩
       ·have hr309 := if_f hc307 hr300
        refine sk ?_
        cases hr309
        intro a w hS hA
        exact ⟨_, rfl, hS, hA.cut ⟨rfl, rfl, rfl, rfl, rfl, rfl, tv⟩⟩
    ·rintro a w ⟨t146, rfl, hS, hA⟩
     refine TG.ap ?_ hS hA
     refine sq (sq (rg (m1 rfl (lnL U42 rfl rfl (eqI rfl rfl rfl (on ?_))))))
     refine ci rfl (fun hc316 => ?_) (fun hc316 => ?_)
     ·have hr317 := if_p hc316 hr145
      refine sq (rg ?_)
      obtain ⟨r318, hx319, hr320⟩ := bd_some hr317
      refine clS C12 rfl rfl rfl rfl (fun w H hH le => w12 hH (hg.mono (le.at 6 rfl))  hx319) (a1 rfl (on (rt_ ?_)))
      cases hr320
      intro a w hS hA
      refine ret1 hA rfl rfl ?_
      exact ⟨rfl, hS.ext⟩
     ·have hr321 := if_n hc316 hr145
      refine sk (sq ?_)
      obtain ⟨hk322, hr323⟩ := chk_some hr321
      obtain ⟨hk324, hr325⟩ := chk_some hr323
      have : 0 ≤ (one % (r65.1.length : Int)) ∧ (one % (r65.1.length : Int)) < (r65.1.length : Int) := have h := (hk324 : 0 ≤ one ∧ 0 < (r65.1.length : Int)); ⟨Int.emod_nonneg _ (by omega), Int.emod_lt_of_pos _ h.2⟩
      obtain ⟨x326, hx327, hr328⟩ := bd_some hr325
      obtain ⟨p329, rfl⟩ := hl71.adr hx327
      obtain ⟨cs330, hcs331, hq332, hr333⟩ := hl71.at hx327
      obtain rfl := hr333
      obtain ⟨hk334, hr335⟩ := chk_some hr328
      obtain ⟨hk336, hr337⟩ := chk_some hr335
      have : 0 ≤ (two % (r65.1.length : Int)) ∧ (two % (r65.1.length : Int)) < (r65.1.length : Int) := have h := (hk336 : 0 ≤ two ∧ 0 < (r65.1.length : Int)); ⟨Int.emod_nonneg _ (by omega), Int.emod_lt_of_pos _ h.2⟩
      obtain ⟨x338, hx339, hr340⟩ := bd_some hr337
      obtain ⟨cs341, hcs342, hq343, hr344⟩ := hl71.at hx339
      obtain rfl := hr344
      refine drG 19 mixed (by kernel_rfl) rfl (dt rfl (m1 rfl fin1) (dt rfl (m1 rfl fin1) (dt rfl (cvI U5 U3 rfl rfl (wr_i64 hk322) fin1) (dt rfl (m1 rfl fin1) (dt rfl (lnL U42 rfl rfl fin1) (dt rfl (rmI rfl rfl rfl hk324 fin1) (dt rfl (iaP U42 Z63 rfl rfl rfl (by omega) (lt_of hx327) fin1) (dt rfl (fb 0 U63 rfl rfl rfl rfl Z3 fin1) (dt rfl (ld G3 rfl rfl ((sS 1 rfl hq332).take 1) rfl fin1) (dt rfl (m1 rfl fin1) (dt rfl (m1 rfl fin1) ?_)))))))))))
      refine dt rfl (cvI U5 U3 rfl rfl (wr_i64 hk334) fin1) (dt rfl (m1 rfl fin1) (dt rfl (lnL U42 rfl rfl fin1) (dt rfl (rmI rfl rfl rfl hk336 fin1) (dt rfl (iaP U42 Z63 rfl rfl rfl (by omega) (lt_of hx339) fin1) (dt rfl (fb 0 U63 rfl rfl rfl rfl Z3 fin1) (dt rfl (ld G3 rfl rfl ((sS 1 rfl hq343).take 1) rfl fin1) (dt rfl (a1 rfl fin1) (DF.nil fun K345 hF => (a1 rfl (on (sq ?_)))))))))))
      refine rg (ldA G24 Z24 rfl rfl (sS 6 rfl hK6) rfl (clK C14 rfl rfl rfl rfl (fun w H hH le => w14 hH v_0 (RVolume.mono _ _ _ _ (le.at 7 rfl) hh_v_0) hx35) ?_))
      rintro v_ K346 ⟨cs347, rfl, hr348⟩
      have hr349 := hr348
      obtain ⟨ad350, cap351, rfl, hl352⟩ := hr348
      have := hl352.len
      refine m1 rfl (clK C15 rfl rfl rfl rfl (fun w H hH le => w15 hH (h_errata.mono (Flat.mono _) (le.at 8 rfl)) hx45) ?_)
      rintro v_ K353 ⟨ad354, cap355, rfl, hl356⟩
      have := hl356.len
      refine m1 rfl (m1 rfl ?_)
      obtain ⟨hk357, hr358⟩ := chk_some hr340
      refine rmK rfl rfl rfl hk357 ?_
      obtain ⟨r359, hx360, hr361⟩ := bd_some hr358
      refine clS C20 rfl rfl rfl rfl (fun w H hH le => w20 hH (hg.mono (le.at 9 rfl)) r34 (RVolume.mono _ _ _ _ (le.at 1 rfl) hr349) (hl356.mono (Flat.mono _) (le.at 0 rfl)) x326.anchor (style % 2) 0 hx360) (m1 rfl (ex rfl rfl rfl (ex rfl rfl rfl (a1 rfl (a1 rfl (on (sq (rg (ldA G24 Z24 rfl rfl (sS 8 rfl hK6) rfl (clK C14 rfl rfl rfl rfl (fun w H hH le => w14 hH v_0 (RVolume.mono _ _ _ _ (le.at 9 rfl) hh_v_0) hx35) ?_))))))))))
      rintro v_ K362 ⟨cs363, rfl, hr364⟩
      have hr365 := hr364
      obtain ⟨ad366, cap367, rfl, hl368⟩ := hr364
      have := hl368.len
      refine m1 rfl (clK C15 rfl rfl rfl rfl (fun w H hH le => w15 hH (h_errata.mono (Flat.mono _) (le.at 10 rfl)) hx45) ?_)
      rintro v_ K369 ⟨ad370, cap371, rfl, hl372⟩
      have := hl372.len
      refine m1 rfl (m1 rfl (rmK rfl rfl rfl hk357 ?_))
      obtain ⟨r373, hx374, hr375⟩ := bd_some hr361
      refine clS C20 rfl rfl rfl rfl (fun w H hH le => w20 hH (hg.mono (le.at 11 rfl)) r34 (RVolume.mono _ _ _ _ (le.at 1 rfl) hr365) (hl372.mono (Flat.mono _) (le.at 0 rfl)) x338.anchor (style % 2) 0 hx374) (m1 rfl (ex rfl rfl rfl (ex rfl rfl rfl (a1 rfl (a1 rfl (on (sq ?_)))))))
      obtain ⟨t388, hx389, hr390⟩ := bd_some hr375
      refine jn (fun a w => St M W H [K369, K362, K353, K346, K345, K68, K61, K54, K47, K37, K5, H] [] w ∧ Has [] 197 a [(12, .bool t388)]) ?_ ?_
      ·refine rg (m1 rfl (eqI rfl rfl rfl (m1 rfl ?_)))
       by_cases hb391 : r359.2 = 0
       ·have hr392 := if_p hb391 hx389
        refine gt hb391 rfl (m1 rfl (gt hb391 rfl (eqI rfl rfl rfl (pt hb391 rfl rfl (m1 rfl ?_)))))
        by_cases hb393 : r373.2 = 0
        ·have hr394 := if_p hb393 hr392
         refine gt hb393 rfl (m1 rfl (gt hb393 rfl (m1 rfl (gt hb393 rfl (eqS rfl rfl rfl (gt hb393 rfl (m1 rfl (gt hb393 rfl (m1 rfl (gt hb393 rfl (eqI rfl rfl rfl ?_)))))))))))
         refine gt hb393 rfl (eqB U4 rfl rfl rfl (pt hb393 rfl rfl (m1 rfl ?_)))
         rcases Bool.eq_false_or_eq_true (decide (r359.1 = r373.1) == decide (x326.anchor = x338.anchor)) with hb395 | hb395
         ·have hr396 := if_p hb395 hr394
          refine gN rfl rfl (hb395) ?_
          obtain ⟨r397, hx398, hr399⟩ := bd_some hr396
          refine clS C12 rfl rfl rfl rfl (fun w H hH le => w12 hH (hg.mono (le.at 11 rfl))  hx398) (pT rfl rfl (hb395) rfl (a1 rfl (on ?_)))
          cases hr399
          exact cu ⟨rfl, tv⟩
         ·have hr400 := if_f hb395 hr394
          refine gF rfl rfl (hb395) rfl (pF rfl rfl (hb395) rfl (a1 rfl (on ?_)))
          cases hr400
          exact cu ⟨rfl, tv⟩
        ·have hr401 := if_n hb393 hr392
         refine gf hb393 rfl (gf hb393 rfl (gf hb393 rfl (gf hb393 rfl (gf hb393 rfl (gf hb393 rfl (gf hb393 rfl (pf hb393 rfl rfl (m1 rfl (gF rfl rfl rfl rfl (pF rfl rfl rfl rfl (a1 rfl ?_)))))))))))
         refine on ?_
         cases hr401
         exact cu ⟨rfl, tv⟩
       ·have hr402 := if_n hb391 hx389
        refine gf hb391 rfl (gf hb391 rfl (pf hb391 rfl rfl (m1 rfl (gF rfl rfl rfl rfl (gF rfl rfl rfl rfl (gF rfl rfl rfl rfl (gF rfl rfl rfl rfl (gF rfl rfl rfl rfl (gF rfl rfl rfl rfl (gF rfl rfl rfl rfl (pF rfl rfl rfl rfl ?_)))))))))))
        refine m1 rfl (gF rfl rfl rfl rfl (pF rfl rfl rfl rfl (a1 rfl (on ?_))))
        cases hr402
        exact cu ⟨rfl, tv⟩
      ·rintro a w ⟨hS, hA⟩
       refine TG.ap ?_ hS hA
       refine rt_ ?_
       cases hr390
       intro a w hS hA
       refine ret1 hA rfl rfl ?_
       exact ⟨rfl, hS.ext⟩

end T10
