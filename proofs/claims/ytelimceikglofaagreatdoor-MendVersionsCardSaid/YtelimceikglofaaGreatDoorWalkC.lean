/-
 Walks of functions of layer 4: each call comes to what the model says. Printed by a program of ours.
-/
import Derived.Test.YtelimceikglofaaGreatDoorWalkB
set_option linter.all false
set_option maxHeartbeats 4000000
namespace T4
open Go Go.Proofs Pk
theorem w39 {M : Prop} {W : World} {H : Hp} (hH : H.le (hp W)) {cs_l_0 : List Value} (l_0 : Lexicon) (h_l_0 : (RLexicon) H cs_l_0 l_0) {ad_swaps : Option Addr} {cap_swaps : Nat} {swaps : List Swap} (h_swaps : Sl (Flat encSwap) 3 H ad_swaps cap_swaps swaps) {cs_r_2 : List Value} (r_2 : Report) (h_r_2 : (RReport) H cs_r_2 r_2) {ad_requests : Option Addr} {cap_requests : Nat} {requests : List Request} (h_requests : Sl (RRequest) 5 H ad_requests cap_requests requests) {r : List Int} (hr : m39 l_0 swaps r_2 requests = some r) : Calls Tryz.prog 39 [.agg cs_l_0.toArray, .slice ad_swaps swaps.length cap_swaps, .agg cs_r_2.toArray, .slice ad_requests requests.length cap_requests].toArray W (RetK M H W (fun v K => ∃ (ad0 : Option Addr) (cap0 : Nat), v = .slice ad0 r.length cap0 ∧ Sl (Flat (encI .i64)) 1 K ad0 cap0 r)) := by
 have hh_l_0 := h_l_0
 obtain ⟨ad1, cap2, ad4, cap5, ad7, cap8, rfl, hl3, hl6, hl9⟩ := h_l_0
 have := hl3.len
 have := hl6.len
 have := hl9.len
 have := h_swaps.len
 have hh_r_2 := h_r_2
 obtain ⟨ad10, cap11, rfl, hl12⟩ := h_r_2
 have := hl12.len
 have := h_requests.len
 unfold m39 at hr
 refine enterG (M := M) Tryz.func39 rfl Tryz.ntmps39 rfl hH ?_
 refine sq (rg (bI (cs := [.slice ad1 l_0.numbers.length cap2, .slice ad4 l_0.names.length cap5, .slice ad7 l_0.nots.length cap8]) rfl rfl rfl fun q13 K14 hK15 => (bI (cs := [.slice ad10 r_2.words.length cap11, .int .i64 r_2.out, .int .i64 r_2.within]) rfl rfl rfl fun q16 K17 hK18 => (a1 rfl (on (sq (rg (m1 rfl (lnL U69 rfl rfl ?_)))))))))
 obtain ⟨hk19, hr20⟩ := chk_some hr
 have : (List.replicate requests.length (0 : Int)).length = requests.length := List.length_replicate
 refine mkL 1 (encI .i64) (0 : Int) T4.E86 rfl rfl rfl rfl rfl rfl rfl hk19 fun b21 => (a1 rfl (on (sq (rg (m1 rfl (lnL U69 rfl rfl ?_))))))
 have : (List.replicate requests.length false).length = requests.length := List.length_replicate
 refine mkL 2 encB false T4.E136 rfl rfl rfl rfl rfl rfl rfl hk19 fun b22 => (a1 rfl (on (sq (rg (a1 rfl (on (sq (sq (rg (a1 rfl (on ?_)))))))))))
 refine TG.nilRow 4 73 5 ?_
 have hR120 : Rows (RRequest) 5 H [] ([] : List Request) := tv
 refine TG.as 4 (z := Own.rows none 0 73 5 [] ([] : List Request)) rfl rfl ?_
 obtain ⟨e446, hl447, hr448⟩ := bd_some hr20
 refine jn (fun a w => ∃ (ad449 : Option Addr) (cap450 : Nat) (css451 : List (List Value)) (K452 : Hp), St M W H [K452, K17, K14, H] [(4, Own.rows ad449 cap450 73 5 css451 e446.1), (2, Own.list (some ⟨b22, 0, none⟩) requests.length 4 1 encB e446.2.1), (1, Own.list (some ⟨b21, 0, none⟩) requests.length 3 1 (encI .i64) e446.2.2)] w ∧ Has [] 98 a [(9, .slice (some ⟨b21, 0, none⟩) ((List.replicate requests.length (0 : Int)).length) requests.length)] ∧ Rows (RRequest) 5 K452 css451 e446.1 ∧ e446.2.1.length = (List.replicate requests.length false).length ∧ e446.2.2.length = (List.replicate requests.length (0 : Int)).length) ?_ ?_
 ·refine bk ?_
  refine lp hl447 (fun s456 a w => ∃ (ad457 : Option Addr) (cap458 : Nat) (css459 : List (List Value)) (K460 : Hp), St M W H [K460, K17, K14, H] [(4, Own.rows ad457 cap458 73 5 css459 s456.2.1), (2, Own.list (some ⟨b22, 0, none⟩) requests.length 4 1 encB s456.2.2.1), (1, Own.list (some ⟨b21, 0, none⟩) requests.length 3 1 (encI .i64) s456.2.2.2)] w ∧ Has [] 98 a [(1, .slice ad_swaps swaps.length cap_swaps), (3, .slice ad_requests requests.length cap_requests), (4, .pointer (some q13)), (6, .pointer (some q16)), (9, .slice (some ⟨b21, 0, none⟩) ((List.replicate requests.length (0 : Int)).length) requests.length), (10, .slice (some ⟨b22, 0, none⟩) ((List.replicate requests.length false).length) requests.length), (11, .slice ad457 s456.2.1.length cap458), (12, .int .i64 (s456.1 : Int))] ∧ Rows (RRequest) 5 K460 css459 s456.2.1 ∧ s456.2.2.1.length = (List.replicate requests.length false).length ∧ s456.2.2.2.length = (List.replicate requests.length (0 : Int)).length) ?_ ?_
  ·intro a w hS hA
   exact ⟨none, 0, [], H, hS.selH [2, 0, 1, 2] rfl, hA.cut ⟨rfl, rfl, rfl, rfl, rfl, rfl, rfl, rfl, tv⟩, hR120, rfl, rfl⟩
  ·rintro j s456 y466 hr464 hz465 a w ⟨ad457, cap458, css459, K460, hS, hA, hR461, hln462, hln463⟩
   refine TG.ap ?_ hS hA
   unfold m39_1 at hr464
   refine sq (sq (rg (m1 rfl (m1 rfl (lnL U69 rfl rfl (ltI rfl rfl rfl (on ?_)))))))
   refine ci rfl (fun hc470 => ?_) (fun hc470 => ?_)
   ·have hr471 := if_p hc470 hr464
    refine sk (sq (bk (sq (rg (a1 rfl (on (sq (sq (rg (a1 rfl (on ?_)))))))))))
    obtain ⟨e642, hl643, hr644⟩ := bd_some hr471
    refine jn (fun a w => St M W H [K460, K17, K14, H] [(4, Own.rows ad457 cap458 73 5 css459 s456.2.1), (2, Own.list (some ⟨b22, 0, none⟩) requests.length 4 1 encB s456.2.2.1), (1, Own.list (some ⟨b21, 0, none⟩) requests.length 3 1 (encI .i64) s456.2.2.2)] w ∧ Has [] 98 a [(1, .slice ad_swaps swaps.length cap_swaps), (3, .slice ad_requests requests.length cap_requests), (4, .pointer (some q13)), (6, .pointer (some q16)), (9, .slice (some ⟨b21, 0, none⟩) ((List.replicate requests.length (0 : Int)).length) requests.length), (10, .slice (some ⟨b22, 0, none⟩) ((List.replicate requests.length false).length) requests.length), (11, .slice ad457 s456.2.1.length cap458), (12, .int .i64 (s456.1 : Int)), (13, .int .i64 e642)]) ?_ ?_
    ·refine bk ?_
     refine lp hl643 (fun s645 a w => St M W H [K460, K17, K14, H] [(4, Own.rows ad457 cap458 73 5 css459 s456.2.1), (2, Own.list (some ⟨b22, 0, none⟩) requests.length 4 1 encB s456.2.2.1), (1, Own.list (some ⟨b21, 0, none⟩) requests.length 3 1 (encI .i64) s456.2.2.2)] w ∧ Has [] 98 a [(1, .slice ad_swaps swaps.length cap_swaps), (3, .slice ad_requests requests.length cap_requests), (4, .pointer (some q13)), (6, .pointer (some q16)), (9, .slice (some ⟨b21, 0, none⟩) ((List.replicate requests.length (0 : Int)).length) requests.length), (10, .slice (some ⟨b22, 0, none⟩) ((List.replicate requests.length false).length) requests.length), (11, .slice ad457 s456.2.1.length cap458), (12, .int .i64 (s456.1 : Int)), (13, .int .i64 s645.2), (14, .int .i64 (s645.1 : Int))]) ?_ ?_
     ·exact cu ⟨rfl, rfl, rfl, rfl, rfl, rfl, rfl, rfl, rfl, rfl, tv⟩
     ·rintro j s645 y648 hr646 hz647 a w ⟨hS, hA⟩
      refine TG.ap ?_ hS hA
      unfold m39_2 at hr646
      refine sq (sq (rg (m1 rfl (m1 rfl (lnL U69 rfl rfl (ltI rfl rfl rfl (on ?_)))))))
      refine ci rfl (fun hc652 => ?_) (fun hc652 => ?_)
      ·have hr653 := if_p hc652 hr646
       refine sk (sq (bk (sq ?_)))
       obtain ⟨t683, hx684, hr685⟩ := bd_some hr653
       refine jn (fun a w => St M W H [K460, K17, K14, H] [(4, Own.rows ad457 cap458 73 5 css459 s456.2.1), (2, Own.list (some ⟨b22, 0, none⟩) requests.length 4 1 encB s456.2.2.1), (1, Own.list (some ⟨b21, 0, none⟩) requests.length 3 1 (encI .i64) s456.2.2.2)] w ∧ Has [] 98 a [(1, .slice ad_swaps swaps.length cap_swaps), (3, .slice ad_requests requests.length cap_requests), (4, .pointer (some q13)), (6, .pointer (some q16)), (9, .slice (some ⟨b21, 0, none⟩) ((List.replicate requests.length (0 : Int)).length) requests.length), (10, .slice (some ⟨b22, 0, none⟩) ((List.replicate requests.length false).length) requests.length), (11, .slice ad457 s456.2.1.length cap458), (12, .int .i64 (s456.1 : Int)), (13, .int .i64 s645.2), (14, .int .i64 (s645.1 : Int)), (49, .bool t683)]) ?_ ?_
       ·refine rg (m1 rfl (m1 rfl ?_))
        obtain ⟨x686, hx687, hr688⟩ := bd_some hx684
        refine iaP U136 Z4 rfl rfl rfl rfl (Nat.lt_of_lt_of_eq (lt_of hx687) hln462) (ld G4 rfl rfl (sE 2 rfl (fun _ => rfl) hx687) rfl (nt rfl rfl (m1 rfl ?_)))
        rcases Bool.eq_false_or_eq_true (x686) with hb689 | hb689
        ·have hr690 := if_p hb689 hr688
         refine gF rfl rfl (congrArg not (hb689)) rfl (gF rfl rfl (congrArg not (hb689)) rfl (gF rfl rfl (congrArg not (hb689)) rfl (gU rfl rfl rfl (gU rfl rfl rfl (gU rfl rfl rfl (gU rfl rfl rfl (gF rfl rfl (congrArg not (hb689)) rfl (pF rfl rfl (congrArg not (hb689)) rfl (on ?_)))))))))
         cases hr690
         exact cu ⟨rfl, rfl, rfl, rfl, rfl, rfl, rfl, rfl, rfl, rfl, rfl, tv⟩
        ·have hr691 := if_f hb689 hr688
         refine gN rfl rfl (congrArg not (hb689)) (m1 rfl (gN rfl rfl (congrArg not (hb689)) (ltI rfl rfl rfl (gN rfl rfl (congrArg not (hb689)) (m1 rfl ?_)))))
         by_cases hb692 : s645.2 < 0
         ·have hr693 := if_p hb692 hr691
          refine gf' hb692 rfl (gf' hb692 rfl (gf' hb692 rfl (gf' hb692 rfl (gN rfl rfl (congrArg not (hb689)) (pt hb692 rfl rfl (pT rfl rfl (congrArg not (hb689)) rfl (on ?_)))))))
          cases hr693
          exact cu ⟨rfl, rfl, rfl, rfl, rfl, rfl, rfl, rfl, rfl, rfl, rfl, tv⟩
         ·have hr694 := if_n hb692 hr691
          refine gt' hb692 rfl (m1 rfl (gt' hb692 rfl (m1 rfl (gt' hb692 rfl (m1 rfl (gt' hb692 rfl ?_))))))
          obtain ⟨r695, hx696, hr697⟩ := bd_some hr694
          refine clS C62 rfl rfl rfl rfl (fun w H hH le => w62 hH (h_requests.mono (RRequest.mono) (le.at 3 rfl)) (s645.1 : Int) s645.2 hx696) (gN rfl rfl (congrArg not (hb689)) (pf hb692 rfl rfl (pT rfl rfl (congrArg not (hb689)) rfl (on ?_))))
          cases hr697
          exact cu ⟨rfl, rfl, rfl, rfl, rfl, rfl, rfl, rfl, rfl, rfl, rfl, tv⟩
       ·rintro a w ⟨hS, hA⟩
        refine TG.ap ?_ hS hA
        obtain ⟨t701, hx702, hr703⟩ := bd_some hr685
        refine jn (fun a w => St M W H [K460, K17, K14, H] [(4, Own.rows ad457 cap458 73 5 css459 s456.2.1), (2, Own.list (some ⟨b22, 0, none⟩) requests.length 4 1 encB s456.2.2.1), (1, Own.list (some ⟨b21, 0, none⟩) requests.length 3 1 (encI .i64) s456.2.2.2)] w ∧ Has [] 98 a [(1, .slice ad_swaps swaps.length cap_swaps), (3, .slice ad_requests requests.length cap_requests), (4, .pointer (some q13)), (6, .pointer (some q16)), (9, .slice (some ⟨b21, 0, none⟩) ((List.replicate requests.length (0 : Int)).length) requests.length), (10, .slice (some ⟨b22, 0, none⟩) ((List.replicate requests.length false).length) requests.length), (11, .slice ad457 s456.2.1.length cap458), (12, .int .i64 (s456.1 : Int)), (13, .int .i64 t701), (14, .int .i64 (s645.1 : Int))]) ?_ ?_
        ·refine cb rfl (fun hc704 => ?_) (fun hc704 => ?_)
         ·have hr705 := if_p hc704 hx702
          refine rg (m1 rfl (a1 rfl (on ?_)))
          cases hr705
          exact cu ⟨rfl, rfl, rfl, rfl, rfl, rfl, rfl, rfl, rfl, rfl, tv⟩
         ·have hr706 := if_f hc704 hx702
          refine sk ?_
          cases hr706
          exact cu ⟨rfl, rfl, rfl, rfl, rfl, rfl, rfl, rfl, rfl, rfl, tv⟩
        ·rintro a w ⟨hS, hA⟩
         refine TG.ap ?_ hS hA
         refine rg (m1 rfl (adI rfl rfl rfl (by omega) (a1 rfl (on ?_))))
         cases hr703
         intro a w hS hA
         exact ⟨_, hz647, hS, hA.cut ⟨rfl, rfl, rfl, rfl, rfl, rfl, rfl, rfl, rfl, rfl, tv⟩⟩
      ·have hr707 := if_n hc652 hr646
       refine xt rfl ?_
       cases hr707
       obtain rfl := Fin.out hz647
       exact cu ⟨rfl, rfl, rfl, rfl, rfl, rfl, rfl, rfl, rfl, tv⟩
    ·rintro a w ⟨hS, hA⟩
     refine TG.ap ?_ hS hA
     refine sq (rg (m1 rfl (m1 rfl ?_)))
     obtain ⟨hk708, hr709⟩ := chk_some hr644
     obtain ⟨x710, hx711, hr712⟩ := bd_some hr709
     refine iaP U136 Z4 rfl rfl rfl (by omega) (Nat.lt_of_lt_of_eq (lt_of hx711) hln462) ?_
     have hln713 : (s456.2.2.1.set e642.toNat true).length = (List.replicate requests.length false).length := (lenS _ _ _).trans hln462
     refine stE 2 true (q := ⟨b22, 0, none⟩) (j := e642.toNat) (size := 1) (cs := [.bool true]) (off := 0) Z4 rfl rfl rfl (fun _ => rfl) hx711 rfl rfl rfl rfl rfl (on (sq (rg (m1 rfl (m1 rfl ?_)))))
     obtain ⟨x714, hx715, hr716⟩ := bd_some hr712
     obtain ⟨p717, rfl⟩ := h_requests.adr hx715
     obtain ⟨cs718, hcs719, hq720, hr721⟩ := h_requests.at hx715
     have hr722 := hr721
     obtain ⟨ad723, cap724, rfl, hl725⟩ := hr721
     have := hl725.len
     refine iaP U69 Z73 rfl rfl rfl (by omega) (lt_of hx715) (ldA G73 Z73 rfl rfl (sS 3 rfl hq720) rfl (va (cs := [.int .i64 x714.by_, .int .i64 x714.minute, .int .i64 x714.from_, .int .i64 x714.cut, .slice ad723 x714.put_.length cap724]) Tryz.zeroValue73 Z73 rfl rfl rfl rfl rfl rfl rfl rfl fun q726 K727 hK728 => (on (sq (rg (m1 rfl (m1 rfl (ldA G26 Z26 rfl rfl (sS 3 rfl hK15) rfl (m1 rfl (ldA G68 Z68 rfl rfl (sS 2 rfl hK18) rfl (ldA G73 Z73 rfl rfl (sS 0 rfl hK728) rfl ?_)))))))))))
     obtain ⟨r729, hx730, hr731⟩ := bd_some hr716
     refine clS C63 rfl rfl rfl rfl (fun w H hH le => w63 hH l_0 (RLexicon.mono _ _ _ _ (le.at 4 rfl) hh_l_0) (h_swaps.mono (Flat.mono _) (le.at 4 rfl)) r_2 (RReport.mono _ _ _ _ (le.at 4 rfl) hh_r_2) x714 (RRequest.mono _ _ _ _ (le.at 4 rfl) hr722) hx730) ?_
     obtain ⟨x732, hx733, hr734⟩ := bd_some hr731
     refine iaP U86 Z3 rfl rfl rfl (by omega) (Nat.lt_of_lt_of_eq (lt_of hx733) hln463) ?_
     have hln735 : (s456.2.2.2.set e642.toNat r729).length = (List.replicate requests.length (0 : Int)).length := (lenS _ _ _).trans hln463
     refine stE 1 r729 (q := ⟨b21, 0, none⟩) (j := e642.toNat) (size := 1) (cs := [.int .i64 r729]) (off := 0) Z3 rfl rfl rfl (fun _ => rfl) hx733 rfl rfl rfl rfl rfl (on (sq (sq (rg (a1 rfl (on ?_))))))
     obtain ⟨e814, hl815, hr816⟩ := bd_some hr734
     refine jn (fun a w => St M W H [K727, K460, K17, K14, H] [(4, Own.rows ad457 cap458 73 5 css459 s456.2.1), (2, Own.list (some ⟨b22, 0, none⟩) requests.length 4 1 encB (s456.2.2.1.set e642.toNat true)), (1, Own.list (some ⟨b21, 0, none⟩) requests.length 3 1 (encI .i64) e814)] w ∧ Has [] 98 a [(1, .slice ad_swaps swaps.length cap_swaps), (3, .slice (some p717) requests.length cap_requests), (4, .pointer (some q13)), (6, .pointer (some q16)), (9, .slice (some ⟨b21, 0, none⟩) ((List.replicate requests.length (0 : Int)).length) requests.length), (10, .slice (some ⟨b22, 0, none⟩) ((List.replicate requests.length false).length) requests.length), (11, .slice ad457 s456.2.1.length cap458), (12, .int .i64 (s456.1 : Int)), (13, .int .i64 e642), (15, .pointer (some q726))] ∧ e814.length = (List.replicate requests.length (0 : Int)).length) ?_ ?_
     ·refine bk ?_
      refine lp hl815 (fun s818 a w => St M W H [K727, K460, K17, K14, H] [(4, Own.rows ad457 cap458 73 5 css459 s456.2.1), (2, Own.list (some ⟨b22, 0, none⟩) requests.length 4 1 encB (s456.2.2.1.set e642.toNat true)), (1, Own.list (some ⟨b21, 0, none⟩) requests.length 3 1 (encI .i64) s818.2)] w ∧ Has [] 98 a [(1, .slice ad_swaps swaps.length cap_swaps), (3, .slice (some p717) requests.length cap_requests), (4, .pointer (some q13)), (6, .pointer (some q16)), (9, .slice (some ⟨b21, 0, none⟩) ((List.replicate requests.length (0 : Int)).length) requests.length), (10, .slice (some ⟨b22, 0, none⟩) ((List.replicate requests.length false).length) requests.length), (11, .slice ad457 s456.2.1.length cap458), (12, .int .i64 (s456.1 : Int)), (13, .int .i64 e642), (15, .pointer (some q726)), (16, .int .i64 (s818.1 : Int))] ∧ s818.2.length = (List.replicate requests.length (0 : Int)).length) ?_ ?_
      ·intro a w hS hA
       exact ⟨hS, hA.cut ⟨rfl, rfl, rfl, rfl, rfl, rfl, rfl, rfl, rfl, rfl, rfl, tv⟩, hln735⟩
      ·rintro j s818 y822 hr820 hz821 a w ⟨hS, hA, hln819⟩
       refine TG.ap ?_ hS hA
       unfold m39_3 at hr820
       refine sq (sq (rg (m1 rfl (m1 rfl (TG.len 4 rfl fun _ => (lnL U69 rfl rfl (ltI rfl rfl rfl (on ?_))))))))
       refine ci rfl (fun hc826 => ?_) (fun hc826 => ?_)
       ·have hr827 := if_p hc826 hr820
        refine sk (sq (bk (sq ?_)))
        obtain ⟨t886, hx887, hr888⟩ := bd_some hr827
        refine jn (fun a w => St M W H [K727, K460, K17, K14, H] [(4, Own.rows ad457 cap458 73 5 css459 s456.2.1), (2, Own.list (some ⟨b22, 0, none⟩) requests.length 4 1 encB (s456.2.2.1.set e642.toNat true)), (1, Own.list (some ⟨b21, 0, none⟩) requests.length 3 1 (encI .i64) s818.2)] w ∧ Has [] 98 a [(1, .slice ad_swaps swaps.length cap_swaps), (3, .slice (some p717) requests.length cap_requests), (4, .pointer (some q13)), (6, .pointer (some q16)), (9, .slice (some ⟨b21, 0, none⟩) ((List.replicate requests.length (0 : Int)).length) requests.length), (10, .slice (some ⟨b22, 0, none⟩) ((List.replicate requests.length false).length) requests.length), (11, .slice ad457 s456.2.1.length cap458), (12, .int .i64 (s456.1 : Int)), (13, .int .i64 e642), (15, .pointer (some q726)), (16, .int .i64 (s818.1 : Int)), (84, .bool t886)]) ?_ ?_
        ·obtain ⟨x889, hx890, hr891⟩ := bd_some hx887
         by_cases hb892 : x889 = 0
         ·have hr893 := if_p hb892 hr891
          obtain ⟨x894, hx895, hr896⟩ := bd_some hr893
          refine TG.addr 4 rfl (lt_of0 hx895) fun b897 h => ?_; subst h
          obtain ⟨cs898, hr899, hl900, hcs901, sc902⟩ := sER hR461 hx895
          have hr903 := hr899
          obtain ⟨ad904, cap905, rfl, hl906⟩ := hr899
          have := hl906.len
          refine drG 11 mixed (by kernel_rfl) rfl (dt rfl (m1 rfl fin1) (dt rfl (m1 rfl fin1) (dt rfl (iaP U86 Z3 rfl rfl rfl (by omega) (Nat.lt_of_lt_of_eq (lt_of hx890) hln819) fin1) (dt rfl (ld G3 rfl rfl (sE 1 rfl (fun _ => rfl) hx890) rfl fin1) (dt rfl (eqI rfl rfl rfl fin1) (dt rfl (m1 rfl fin1) (dt rfl (gt hb892 rfl (ldA G73 Z73 rfl rfl (sS 1 rfl hK728) rfl fin1)) (dt rfl (gt hb892 rfl (m1 rfl fin1)) (dt rfl (gt hb892 rfl (m1 rfl fin1)) (dt rfl (gt hb892 rfl (iaP U69 Z73 rfl rfl rfl rfl (lt_of hx895) fin1)) (dt rfl (gt hb892 rfl (ldA G73 Z73 rfl rfl (sc902 (t := 4) rfl) rfl fin1)) ?_)))))))))))
          refine DF.nil fun K907 hF => (gt hb892 rfl ?_)
          obtain ⟨r908, hx909, hr910⟩ := bd_some hr896
          refine clS C33 rfl rfl rfl rfl (fun w H hH le => w33 hH x714 (RRequest.mono _ _ _ _ (le.at 5 rfl) hr722) x894 (RRequest.mono _ _ _ _ (le.at 2 rfl) hr903) hx909) (pt hb892 rfl rfl (on ?_))
          cases hr910
          intro a w hS hA
          exact ⟨hS.selH [1, 2, 3, 4, 5] rfl, hA.cut ⟨rfl, rfl, rfl, rfl, rfl, rfl, rfl, rfl, rfl, rfl, rfl, rfl, tv⟩⟩
         ·have hr911 := if_n hb892 hr891
          refine drG 11 mixed (by kernel_rfl) rfl (dt rfl (m1 rfl fin1) (dt rfl (m1 rfl fin1) (dt rfl (iaP U86 Z3 rfl rfl rfl (by omega) (Nat.lt_of_lt_of_eq (lt_of hx890) hln819) fin1) (dt rfl (ld G3 rfl rfl (sE 1 rfl (fun _ => rfl) hx890) rfl fin1) (dt rfl (eqI rfl rfl rfl fin1) (dt rfl (m1 rfl fin1) (dt rfl (gf hb892 rfl fin1) (dt rfl (gf hb892 rfl fin1) (dt rfl (gf hb892 rfl fin1) (dt rfl (gf hb892 rfl fin1) (dt rfl (gf hb892 rfl fin1) ?_)))))))))))
          refine DF.nil fun K912 hF => (gf hb892 rfl (pf hb892 rfl rfl (on ?_)))
          cases hr911
          intro a w hS hA
          exact ⟨hS.selH [1, 2, 3, 4, 5] rfl, hA.cut ⟨rfl, rfl, rfl, rfl, rfl, rfl, rfl, rfl, rfl, rfl, rfl, rfl, tv⟩⟩
        ·rintro a w ⟨hS, hA⟩
         refine TG.ap ?_ hS hA
         obtain ⟨t920, hx921, hr922⟩ := bd_some hr888
         refine jn (fun a w => St M W H [K727, K460, K17, K14, H] [(4, Own.rows ad457 cap458 73 5 css459 s456.2.1), (2, Own.list (some ⟨b22, 0, none⟩) requests.length 4 1 encB (s456.2.2.1.set e642.toNat true)), (1, Own.list (some ⟨b21, 0, none⟩) requests.length 3 1 (encI .i64) t920)] w ∧ Has [] 98 a [(1, .slice ad_swaps swaps.length cap_swaps), (3, .slice (some p717) requests.length cap_requests), (4, .pointer (some q13)), (6, .pointer (some q16)), (9, .slice (some ⟨b21, 0, none⟩) ((List.replicate requests.length (0 : Int)).length) requests.length), (10, .slice (some ⟨b22, 0, none⟩) ((List.replicate requests.length false).length) requests.length), (11, .slice ad457 s456.2.1.length cap458), (12, .int .i64 (s456.1 : Int)), (13, .int .i64 e642), (15, .pointer (some q726)), (16, .int .i64 (s818.1 : Int))] ∧ t920.length = (List.replicate requests.length (0 : Int)).length) ?_ ?_
         ·refine cb rfl (fun hc924 => ?_) (fun hc924 => ?_)
          ·have hr925 := if_p hc924 hx921
           refine rg (m1 rfl (m1 rfl ?_))
           obtain ⟨x926, hx927, hr928⟩ := bd_some hr925
           refine iaP U86 Z3 rfl rfl rfl (by omega) (Nat.lt_of_lt_of_eq (lt_of hx927) hln819) ?_
           have hln929 : (s818.2.set e642.toNat 6).length = (List.replicate requests.length (0 : Int)).length := (lenS _ _ _).trans hln819
           refine stE 1 6 (q := ⟨b21, 0, none⟩) (j := e642.toNat) (size := 1) (cs := [.int .i64 6]) (off := 0) Z3 rfl rfl rfl (fun _ => rfl) hx927 rfl rfl rfl rfl rfl (on ?_)
           cases hr928
           intro a w hS hA
           exact ⟨hS, hA.cut ⟨rfl, rfl, rfl, rfl, rfl, rfl, rfl, rfl, rfl, rfl, rfl, tv⟩, hln929⟩
          ·have hr930 := if_f hc924 hx921
           refine sk ?_
           cases hr930
           intro a w hS hA
           exact ⟨hS, hA.cut ⟨rfl, rfl, rfl, rfl, rfl, rfl, rfl, rfl, rfl, rfl, rfl, tv⟩, hln819⟩
         ·rintro a w ⟨hS, hA, hln923⟩
          refine TG.ap ?_ hS hA
          refine rg (m1 rfl (adI rfl rfl rfl (by omega) (a1 rfl (on ?_))))
          cases hr922
          intro a w hS hA
          exact ⟨_, hz821, hS, hA.cut ⟨rfl, rfl, rfl, rfl, rfl, rfl, rfl, rfl, rfl, rfl, rfl, tv⟩, hln923⟩
       ·have hr931 := if_n hc826 hr820
        refine xt rfl ?_
        cases hr931
        obtain rfl := Fin.out hz821
        intro a w hS hA
        exact ⟨hS, hA.cut ⟨rfl, rfl, rfl, rfl, rfl, rfl, rfl, rfl, rfl, rfl, tv⟩, hln819⟩
     ·rintro a w ⟨hS, hA, hln817⟩
      refine TG.ap ?_ hS hA
      refine sq (rg (m1 rfl (m1 rfl ?_)))
      obtain ⟨x932, hx933, hr934⟩ := bd_some hr816
      refine iaP U86 Z3 rfl rfl rfl (by omega) (Nat.lt_of_lt_of_eq (lt_of hx933) hln817) (ld G3 rfl rfl (sE 1 rfl (fun _ => rfl) hx933) rfl (eqI rfl rfl rfl (on ?_)))
      obtain ⟨t945, hx946, hr947⟩ := bd_some hr934
      refine jn (fun a w => ∃ (ad948 : Option Addr) (cap949 : Nat) (css950 : List (List Value)) (K951 : Hp), St M W H [K951, K727, K460, K17, K14, H] [(4, Own.rows ad948 cap949 73 5 css950 t945), (2, Own.list (some ⟨b22, 0, none⟩) requests.length 4 1 encB (s456.2.2.1.set e642.toNat true)), (1, Own.list (some ⟨b21, 0, none⟩) requests.length 3 1 (encI .i64) e814)] w ∧ Has [] 98 a [(1, .slice ad_swaps swaps.length cap_swaps), (3, .slice (some p717) requests.length cap_requests), (4, .pointer (some q13)), (6, .pointer (some q16)), (9, .slice (some ⟨b21, 0, none⟩) ((List.replicate requests.length (0 : Int)).length) requests.length), (10, .slice (some ⟨b22, 0, none⟩) ((List.replicate requests.length false).length) requests.length), (11, .slice ad948 t945.length cap949), (12, .int .i64 (s456.1 : Int))] ∧ Rows (RRequest) 5 K951 css950 t945) ?_ ?_
      ·refine ci rfl (fun hc953 => ?_) (fun hc953 => ?_)
       ·have hr954 := if_p hc953 hx946
        refine rg (m1 rfl (ldA G73 Z73 rfl rfl (sS 0 rfl hK728) rfl ?_))
        obtain ⟨hk955, hr956⟩ := chk_some hr954
        have := lenA s456.2.1 [x714]
        refine TG.pack (fun K => Rows (RRequest) 5 K (css459 ++ [[.int .i64 x714.by_, .int .i64 x714.minute, .int .i64 x714.from_, .int .i64 x714.cut, .slice ad723 x714.put_.length cap724]]) (s456.2.1 ++ [x714])) (fun H le => (hR461.mono (RRequest.mono) (le.at 1 rfl)).snoc rfl rfl (RRequest.mono _ _ _ _ (le.at 4 rfl) hr722)) fun K960 hR961 => (ap1R 4 [.int .i64 x714.by_, .int .i64 x714.minute, .int .i64 x714.from_, .int .i64 x714.cut, .slice ad723 x714.put_.length cap724] x714 (l := s456.2.1) (css := css459) T4.E69 rfl rfl rfl rfl rfl rfl rfl rfl rfl rfl rfl rfl hk955 fun ad957 cap958 u959 => (a1 rfl (on ?_)))
        cases hr956
        intro a w hS hA
        exact ⟨ad957, cap958, (css459 ++ [[Value.int .i64 x714.by_, Value.int .i64 x714.minute, Value.int .i64 x714.from_, Value.int .i64 x714.cut, Value.slice ad723 x714.put_.length cap724]]), K960, hS, hA.cut ⟨rfl, rfl, rfl, rfl, rfl, rfl, rfl, rfl, tv⟩, hR961⟩
       ·have hr962 := if_n hc953 hx946
        refine sk ?_
        cases hr962
        intro a w hS hA
        exact ⟨ad457, cap458, css459, K460, hS.selH [1, 0, 1, 2, 3, 4] rfl, hA.cut ⟨rfl, rfl, rfl, rfl, rfl, rfl, rfl, rfl, tv⟩, hR461⟩
      ·rintro a w ⟨ad948, cap949, css950, K951, hS, hA, hR952⟩
       refine TG.ap ?_ hS hA
       refine rg (m1 rfl (adI rfl rfl rfl (by omega) (a1 rfl (on ?_))))
       cases hr947
       intro a w hS hA
       exact ⟨_, hz465, ad948, cap949, css950, K951, hS.selH [0, 3, 4, 5] rfl, hA.cut ⟨rfl, rfl, rfl, rfl, rfl, rfl, rfl, rfl, tv⟩, hR952, hln713, hln817⟩
   ·have hr963 := if_n hc470 hr464
    refine xt rfl ?_
    cases hr963
    obtain rfl := Fin.out hz465
    intro a w hS hA
    exact ⟨ad457, cap458, css459, K460, hS, hA.cut ⟨rfl, tv⟩, hR461, hln462, hln463⟩
 ·rintro a w ⟨ad449, cap450, css451, K452, hS, hA, hR453, hln454, hln455⟩
  refine TG.ap ?_ hS hA
  refine sq (rg (m1 rfl (a1 rfl (on (rt_ (TG.cut (L' := [(8, .slice (some ⟨b21, 0, none⟩) e446.2.2.length requests.length), (9, .slice (some ⟨b21, 0, none⟩) e446.2.2.length requests.length), (97, .slice (some ⟨b21, 0, none⟩) e446.2.2.length requests.length)]) ⟨(congrArg (fun (n : Nat) => some (Value.slice (some ⟨b21, 0, none⟩) n requests.length)) hln455.symm), (congrArg (fun (n : Nat) => some (Value.slice (some ⟨b21, 0, none⟩) n requests.length)) hln455.symm), (congrArg (fun (n : Nat) => some (Value.slice (some ⟨b21, 0, none⟩) n requests.length)) hln455.symm), tv⟩ ?_))))))
  cases hr448
  intro a w hS hA
  refine ret1 hA rfl rfl ?_
  exact ⟨⟨_, _, rfl, (hS.listOut 1 rfl (fun _ => rfl))⟩, hS.ext⟩

theorem w65 {M : Prop} {W : World} {H : Hp} (hH : H.le (hp W)) (a_0 : Int) (b_1 : Int) {q_f0_ : Addr} {ad_f0_ : Option Addr} {cap_f0_ : Nat} {f0_ : List Request} (hc_f0_ : CellsAt H q_f0_ [.slice ad_f0_ f0_.length cap_f0_]) (h_f0_ : Sl (RRequest) 5 H ad_f0_ cap_f0_ f0_) {r : Int} (hr : m65 a_0 b_1 f0_ = some r) : Calls Tryz.prog 65 [.int .i64 a_0, .int .i64 b_1, .pointer (some q_f0_)].toArray W (RetS M W (.int .i64 r)) := by
 have := h_f0_.len
 unfold m65 at hr
 refine enterG (M := M) Tryz.func65 rfl Tryz.ntmps65 rfl hH ?_
 refine sq (rg (a1 rfl (on (sq ?_))))
 obtain ⟨hk1, hr2⟩ := chk_some hr
 obtain ⟨x3, hx4, hr5⟩ := bd_some hr2
 obtain ⟨p6, rfl⟩ := h_f0_.adr hx4
 obtain ⟨cs7, hcs8, hq9, hr10⟩ := h_f0_.at hx4
 have hr11 := hr10
 obtain ⟨ad12, cap13, rfl, hl14⟩ := hr10
 have := hl14.len
 obtain ⟨hk15, hr16⟩ := chk_some hr5
 obtain ⟨x17, hx18, hr19⟩ := bd_some hr16
 obtain ⟨cs20, hcs21, hq22, hr23⟩ := h_f0_.at hx18
 have hr24 := hr23
 obtain ⟨ad25, cap26, rfl, hl27⟩ := hr23
 have := hl27.len
 obtain ⟨hk28, hr29⟩ := chk_some hr19
 obtain ⟨hk30, hr31⟩ := chk_some hr29
 refine drG 22 mixed (by kernel_rfl) rfl (dt rfl (ld G64 rfl rfl (sS 1 rfl hc_f0_) rfl fin1) (dt rfl (m1 rfl fin1) (dt rfl (iaP U64 Z63 rfl rfl rfl (by omega) (lt_of hx4) fin1) (dt rfl (fb 2 U63 rfl rfl rfl rfl Z3 fin1) (dt rfl (ld G3 rfl rfl (((sS 1 rfl hq9).drop 2).take 1) rfl fin1) (dt rfl (ld G64 rfl rfl (sS 1 rfl hc_f0_) rfl fin1) (dt rfl (m1 rfl fin1) (dt rfl (iaP U64 Z63 rfl rfl rfl (by omega) (lt_of hx18) fin1) (dt rfl (fb 2 U63 rfl rfl rfl rfl Z3 fin1) (dt rfl (ld G3 rfl rfl (((sS 1 rfl hq22).drop 2).take 1) rfl fin1) (dt rfl (sbI rfl rfl rfl hk28 fin1) ?_)))))))))))
 refine dt rfl (ld G64 rfl rfl (sS 1 rfl hc_f0_) rfl fin1) (dt rfl (m1 rfl fin1) (dt rfl (iaP U64 Z63 rfl rfl rfl (by omega) (lt_of hx4) fin1) (dt rfl (fb 3 U63 rfl rfl rfl rfl Z3 fin1) (dt rfl (ld G3 rfl rfl (((sS 1 rfl hq9).drop 3).take 1) rfl fin1) (dt rfl (ld G64 rfl rfl (sS 1 rfl hc_f0_) rfl fin1) (dt rfl (m1 rfl fin1) (dt rfl (iaP U64 Z63 rfl rfl rfl (by omega) (lt_of hx18) fin1) (dt rfl (fb 3 U63 rfl rfl rfl rfl Z3 fin1) (dt rfl (ld G3 rfl rfl (((sS 1 rfl hq22).drop 3).take 1) rfl fin1) (dt rfl (sbI rfl rfl rfl hk30 fin1) (DF.nil fun K32 hF => ?_)))))))))))
 refine bS (cs := [.int .i64 (x3.from_ - x17.from_), .int .i64 (x3.cut - x17.cut)]) T4.E86 rfl rfl rfl rfl fun q33 K34 hq35 hK36 => ?_
 have hl37 : Sl (Flat (encI .i64)) 1 K34 (some q33) 2 ([(x3.from_ - x17.from_), (x3.cut - x17.cut)] : List Int) := Sl.litR (css := [[.int .i64 (x3.from_ - x17.from_)], [.int .i64 (x3.cut - x17.cut)]]) (l := ([(x3.from_ - x17.from_), (x3.cut - x17.cut)] : List Int)) ⟨⟨rfl, rfl, rfl⟩, ⟨rfl, rfl, rfl⟩, tv⟩ hq35 hK36 rfl
 have := hl37.len
 obtain ⟨r38, hx39, hr40⟩ := bd_some hr31
 refine clS C66 rfl rfl rfl rfl (fun w H hH le => w66 hH (hl37.mono (Flat.mono _) (le.at 0 rfl)) hx39) (a1 rfl (on (rt_ ?_)))
 cases hr40
 intro a w hS hA
 refine ret1 hA rfl rfl ?_
 exact ⟨rfl, hS.ext⟩

theorem w70 {M : Prop} {W : World} {H : Hp} (hH : H.le (hp W)) {ad_s_0 : Option Addr} {cap_s_0 : Nat} {s_0 : List Bytes} (h_s_0 : Sl (Flat encS) 1 H ad_s_0 cap_s_0 s_0) {r : List Bytes} (hr : m70 s_0 = some r) : Calls Tryz.prog 70 [.slice ad_s_0 s_0.length cap_s_0].toArray W (RetK M H W (fun v K => ∃ (ad0 : Option Addr) (cap0 : Nat), v = .slice ad0 r.length cap0 ∧ Sl (Flat encS) 1 K ad0 cap0 r)) := by
 have := h_s_0.len
 unfold m70 at hr
 refine enterG (M := M) Tryz.func70 rfl Tryz.ntmps70 rfl hH ?_
 refine sq (rg (a1 rfl (on (sq (sq (rg (m1 rfl (slN U24 rfl rfl (on ?_)))))))))
 refine cb rfl (fun hc3 => ?_) (fun hc3 => ?_)
 ·obtain rfl := Sl.isNil h_s_0 hc3
  have hr4 := (chk_some hr).2
  refine sq (rg (a1 rfl (on (rt_ ?_))))
  cases hr4
  intro a w hS hA
  refine ret1 hA rfl rfl ?_
  exact ⟨⟨_, _, rfl, (Sl.nil _ _ _ _ _ (by decide))⟩, hS.ext⟩
 ·refine sk (sq (rg (bSL 1 encS ([] : List Bytes) (cs := []) T4.E24 rfl rfl rfl rfl rfl rfl fun b5 => (m1 rfl ?_))))
  obtain ⟨hk6, hr7⟩ := chk_some hr
  have := lenA ([] : List Bytes) s_0
  refine apS 1 (enc := encS) (l := ([] : List Bytes)) (m := s_0) T4.E24 rfl rfl rfl rfl rfl rfl h_s_0 0 rfl (fun _ => rfl) (fun _ => rfl) rfl hk6 fun ad8 cap9 => (a1 rfl (on (rt_ ?_)))
  cases hr7
  intro a w hS hA
  refine ret1 hA rfl rfl ?_
  exact ⟨⟨_, _, rfl, (hS.listOut 1 rfl (fun _ => rfl))⟩, hS.ext⟩

theorem w42 {M : Prop} {W : World} {H : Hp} (hH : H.le (hp W)) (hg : Gv M H) {cs_l_0 : List Value} (l_0 : Lexicon) (h_l_0 : (RLexicon) H cs_l_0 l_0) {ad_swaps : Option Addr} {cap_swaps : Nat} {swaps : List Swap} (h_swaps : Sl (Flat encSwap) 3 H ad_swaps cap_swaps swaps) {cs_r_2 : List Value} (r_2 : Report) (h_r_2 : (RReport) H cs_r_2 r_2) {ad_requests : Option Addr} {cap_requests : Nat} {requests : List Request} (h_requests : Sl (RRequest) 5 H ad_requests cap_requests requests) {r : List Segment × Int} (hr : m42 l_0 swaps r_2 requests = some r) : Calls Tryz.prog 42 [.agg cs_l_0.toArray, .slice ad_swaps swaps.length cap_swaps, .agg cs_r_2.toArray, .slice ad_requests requests.length cap_requests].toArray W (RetK M H W (fun v K => ∃ (ad0 : Option Addr) (cap0 : Nat), v = .tuple [.slice ad0 r.1.length cap0, .int .i64 r.2].toArray ∧ Sl (RSegment) 3 K ad0 cap0 r.1)) := by
 have hh_l_0 := h_l_0
 obtain ⟨ad1, cap2, ad4, cap5, ad7, cap8, rfl, hl3, hl6, hl9⟩ := h_l_0
 have := hl3.len
 have := hl6.len
 have := hl9.len
 have := h_swaps.len
 have hh_r_2 := h_r_2
 obtain ⟨ad10, cap11, rfl, hl12⟩ := h_r_2
 have := hl12.len
 have := h_requests.len
 unfold m42 at hr
 refine enterG (M := M) Tryz.func42 rfl Tryz.ntmps42 rfl hH ?_
 refine sq (rg (bI (cs := [.slice ad1 l_0.numbers.length cap2, .slice ad4 l_0.names.length cap5, .slice ad7 l_0.nots.length cap8]) rfl rfl rfl fun q13 K14 hK15 => (bI (cs := [.slice ad10 r_2.words.length cap11, .int .i64 r_2.out, .int .i64 r_2.within]) rfl rfl rfl fun q16 K17 hK18 => (bI (cs := [.slice ad_requests requests.length cap_requests]) rfl rfl rfl fun q19 K20 hK21 => (a1 rfl (a1 rfl (on (sq (rg (ldA G36 Z36 rfl rfl (sS 2 rfl hK15) rfl (m1 rfl ?_)))))))))))
 refine ldA G56 Z56 rfl rfl (sS 1 rfl hK18) rfl (ld G64 rfl rfl (sS 0 rfl hK21) rfl ?_)
 obtain ⟨t1085, hx1086, hr1087⟩ := bd_some hr
 refine clI C59 Tryz.func59 rfl Tryz.ntmps59 rfl rfl rfl rfl (fun v w => (∃ (t1088 : Int), t1085 = (.inl t1088) ∧ v = .tuple [.pointer none, .int .i64 t1088].toArray ∧ St M W H [K20, K17, K14, H] [] w) ∨ (∃ (t1089 : List Int × List Request × List Said × (List (Bytes × Mark)) × List Swap × List Int), t1085 = (.inr t1089) ∧ ∃ (b1090 : Nat) (ad1091 : Option Addr) (cap1092 : Nat) (ad1093 : Option Addr) (cap1094 : Nat) (css1095 : List (List Value)) (K1096 : Hp) (ad1098 : Option Addr) (cap1099 : Nat) (K1100 : Hp) (mp1102 : Value) (K1103 : Hp) (ad1105 : Option Addr) (cap1106 : Nat) (K1107 : Hp) (ad1109 : Option Addr) (cap1110 : Nat), v = .tuple [.pointer (some (⟨b1090, 0, none⟩)), .int .i64 0].toArray ∧ St M W H [K1096, K1100, K1103, K1107, K20, K17, K14, H] [(8, Own.list ad1091 cap1092 3 1 (encI .i64) t1089.1), (7, Own.rows ad1093 cap1094 63 5 css1095 t1089.2.1), (2, cel b1090 133 [.slice ad1098 t1089.2.2.1.length cap1099, .int .i64 r_2.out, .int .i64 r_2.within, mp1102, .slice ad1105 t1089.2.2.2.2.1.length cap1106, .slice ad1093 t1089.2.1.length cap1094, .slice ad1091 t1089.1.length cap1092, .slice ad1109 t1089.2.2.2.2.2.length cap1110]), (1, Own.list ad1109 cap1110 31 1 (encI .i64) t1089.2.2.2.2.2)] w ∧ Rows (RRequest) 5 K1096 css1095 t1089.2.1 ∧ Sl (Flat encSaid) 2 K1100 ad1098 cap1099 t1089.2.2.1 ∧ Mp keS (fun x => Value.agg (encMark x).toArray) K1103 mp1102 t1089.2.2.2.1 ∧ Sl (Flat encSwap) 3 K1107 ad1105 cap1106 t1089.2.2.2.2.1)) ?_ ?_
 ·refine sq (rg (bI (cs := [.slice ad1 l_0.numbers.length cap2, .slice ad4 l_0.names.length cap5, .slice ad7 l_0.nots.length cap8]) rfl rfl rfl fun q1111 K1112 hK1113 => (bI (cs := [.slice ad10 r_2.words.length cap11, .int .i64 r_2.out, .int .i64 r_2.within]) rfl rfl rfl fun q1114 K1115 hK1116 => (bI (cs := [.slice ad_requests requests.length cap_requests]) rfl rfl rfl fun q1117 K1118 hK1119 => (a1 rfl (a1 rfl (on (sq (rg (ldA G36 Z36 rfl rfl (sS 2 rfl hK1113) rfl (m1 rfl ?_)))))))))))
  obtain ⟨r1120, hx1121, hr1122⟩ := bd_some hx1086
  refine clK C51 rfl rfl rfl rfl (fun w H hH le => w51 hH l_0 (RLexicon.mono _ _ _ _ (le.at 6 rfl) hh_l_0) (h_swaps.mono (Flat.mono _) (le.at 6 rfl)) hx1121) ?_
  rintro v_ K1123 ⟨cs1124, rfl, hr1125⟩
  have hr1126 := hr1125
  obtain ⟨mp1127, ad1129, cap1130, rfl, hm1128, hl1131⟩ := hr1125
  have := hl1131.len
  refine m1 rfl (ex rfl rfl rfl (ex rfl rfl rfl ?_))
  obtain ⟨b1132, rfl⟩ := Mp.isMap hm1128
  refine va (cs := [.map b1132, .slice ad1129 r1120.1.swaps.length cap1130]) Tryz.zeroValue117 Z117 rfl rfl rfl rfl rfl rfl rfl rfl fun q1133 K1134 hK1135 => (a1 rfl (on (sq (sq (rg (m1 rfl (neI rfl rfl rfl (on ?_))))))))
  refine ci rfl (fun hc1139 => ?_) (fun hc1139 => ?_)
  ·have hr1140 := if_p hc1139 hr1122
   refine sq (rg (m1 rfl (a1 rfl (a1 rfl (on (rt_ ?_))))))
   cases hr1140
   intro a w hS hA
   refine ret2 hA rfl rfl rfl ?_
   exact ⟨_, rfl, .inl ⟨_, rfl, rfl, hS.selH [5, 6, 7, 8] rfl⟩⟩
  ·have hr1141 := if_n hc1139 hr1122
   refine sk (sq (sq (rg (ldA G56 Z56 rfl rfl (sS 3 rfl hK1116) rfl ?_))))
   obtain ⟨r1142, hx1143, hr1144⟩ := bd_some hr1141
   refine clS C61 rfl rfl rfl rfl (fun w H hH le => w61 hH r_2 (RReport.mono _ _ _ _ (le.at 8 rfl) hh_r_2) hx1143) (a1 rfl (on (sq (rg (m1 rfl (neI rfl rfl rfl (on ?_)))))))
   refine ci rfl (fun hc1148 => ?_) (fun hc1148 => ?_)
   ·have hr1149 := if_p hc1148 hr1144
    refine sq (rg (m1 rfl (a1 rfl (a1 rfl (on (rt_ ?_))))))
    cases hr1149
    intro a w hS hA
    refine ret2 hA rfl rfl rfl ?_
    exact ⟨_, rfl, .inl ⟨_, rfl, rfl, hS.selH [5, 6, 7, 8] rfl⟩⟩
   ·have hr1150 := if_n hc1148 hr1144
    refine sk (sq (sq (rg (ld G64 rfl rfl (sS 2 rfl hK1119) rfl (lnL U64 rfl rfl (gtI rfl rfl rfl (on ?_)))))))
    refine ci rfl (fun hc1154 => ?_) (fun hc1154 => ?_)
    ·have hr1155 := if_p hc1154 hr1150
     refine sq (rg (a1 rfl (a1 rfl (on (rt_ ?_)))))
     cases hr1155
     intro a w hS hA
     refine ret2 hA rfl rfl rfl ?_
     exact ⟨_, rfl, .inl ⟨_, rfl, rfl, hS.selH [5, 6, 7, 8] rfl⟩⟩
    ·have hr1156 := if_n hc1154 hr1150
     refine sk (sq ?_)
     obtain ⟨hk1157, hr1158⟩ := chk_some hr1156
     have : (List.replicate requests.length (0 : Int)).length = requests.length := List.length_replicate
     refine drG2 5 4 mixed (by kernel_rfl) rfl rfl (DG.detA rfl rfl rfl (fun τ a w K hS hA hF => TG.pa hS hA (ldA G56 Z56 rfl rfl (sS 4 rfl hK1116) rfl fin1)) (DG.detA rfl rfl rfl (fun τ a w K hS hA hF => TG.pa hS hA (ldA G117 Z117 rfl rfl (sS 1 rfl hK1135) rfl fin1)) (DG.det (fun τ => τ = []) rfl rfl (.inr (by kernel_rfl)) (fun _ h => by cases h) rfl rfl (fun τ hτ a w K hS hA hF => by subst hτ <;> exact TG.pa hS hA (ld G64 rfl rfl (sS 3 rfl hK1119) rfl fin1)) (DG.det (fun τ => τ = []) rfl rfl (.inr (by kernel_rfl)) (fun _ h => by cases h) rfl rfl (fun τ hτ a w K hS hA hF => by subst hτ <;> exact TG.pa hS hA (lnL U64 rfl rfl fin1)) (DG.turn (α := Nat) 0 (fun b1159 => .slice (some ⟨b1159, 0, none⟩) ((List.replicate requests.length (0 : Int)).length) requests.length) (fun _ _ => True) (fun b1159 => [(1, Own.list (some ⟨b1159, 0, none⟩) requests.length 31 1 (encI .i64) (List.replicate requests.length (0 : Int)))]) rfl (fun _ _ _ _ h => h) (by kernel_rfl) rfl rfl (fun a w K hS hA hF => TG.pa hS hA (mkL 1 (encI .i64) (0 : Int) T4.E59 rfl rfl rfl rfl rfl rfl rfl hk1157 fun b1159 => finT (f := fun b1159 => .slice (some ⟨b1159, 0, none⟩) ((List.replicate requests.length (0 : Int)).length) requests.length) (G := fun _ _ => True) (σ1 := fun b1159 => [(1, Own.list (some ⟨b1159, 0, none⟩) requests.length 31 1 (encI .i64) (List.replicate requests.length (0 : Int)))]) b1159 tv)) fun b1159 => (DG.nil fun K1160 hF => ?_))))))
     obtain ⟨_, _⟩ := hF
     refine bu (cs := [.slice ad10 r_2.words.length cap11, .int .i64 r_2.out, .int .i64 r_2.within, .map b1132, .slice ad1129 r1120.1.swaps.length cap1130, .slice none 0 0, .slice none 0 0, .slice (some ⟨b1159, 0, none⟩) ((List.replicate requests.length (0 : Int)).length) requests.length]) T4.B133 rfl rfl rfl (bO 2 rfl rfl rfl fun b1161 => (a1 rfl (on (sq (rg (a1 rfl (on (sq (sq (rg (ld G64 rfl rfl (sS 3 rfl hK1119) rfl ?_)))))))))))
     refine lnL U64 rfl rfl (m1 rfl (on (TG.nilRow 4 3 1 (TG.as 4 (z := Own.list none 0 3 1 (encI .i64) ([] : List Int)) rfl rfl ?_))))
     obtain ⟨e1195, hl1196, hr1197⟩ := bd_some hr1158
     refine jn (fun a w => ∃ (ad1198 : Option Addr) (cap1199 : Nat), St M W H [K1160, K1134, K1123, K1118, K1115, K1112, K20, K17, K14, H] [(4, Own.list ad1198 cap1199 3 1 (encI .i64) e1195), (2, cel b1161 133 [.slice ad10 r_2.words.length cap11, .int .i64 r_2.out, .int .i64 r_2.within, .map b1132, .slice ad1129 r1120.1.swaps.length cap1130, .slice none 0 0, .slice none 0 0, .slice (some ⟨b1159, 0, none⟩) ((List.replicate requests.length (0 : Int)).length) requests.length]), (1, Own.list (some ⟨b1159, 0, none⟩) requests.length 31 1 (encI .i64) (List.replicate requests.length (0 : Int)))] w ∧ Has [] 106 a [(7, .pointer (some q1117)), (13, .pointer (some (⟨b1161, 0, none⟩))), (14, .slice ad1198 e1195.length cap1199)]) ?_ ?_
     ·refine bk ?_
      refine lp hl1196 (fun s1200 a w => ∃ (ad1201 : Option Addr) (cap1202 : Nat), St M W H [K1160, K1134, K1123, K1118, K1115, K1112, K20, K17, K14, H] [(4, Own.list ad1201 cap1202 3 1 (encI .i64) s1200.2), (2, cel b1161 133 [.slice ad10 r_2.words.length cap11, .int .i64 r_2.out, .int .i64 r_2.within, .map b1132, .slice ad1129 r1120.1.swaps.length cap1130, .slice none 0 0, .slice none 0 0, .slice (some ⟨b1159, 0, none⟩) ((List.replicate requests.length (0 : Int)).length) requests.length]), (1, Own.list (some ⟨b1159, 0, none⟩) requests.length 31 1 (encI .i64) (List.replicate requests.length (0 : Int)))] w ∧ Has [] 106 a [(7, .pointer (some q1117)), (13, .pointer (some (⟨b1161, 0, none⟩))), (14, .slice ad1201 s1200.2.length cap1202), (43, .int .i64 (requests.length : Int)), (44, .int .i64 (s1200.1 : Int))]) ?_ ?_
      ·intro a w hS hA
       exact ⟨none, 0, hS, hA.cut ⟨rfl, rfl, rfl, rfl, rfl, tv⟩⟩
      ·rintro j s1200 y1205 hr1203 hz1204 a w ⟨ad1201, cap1202, hS, hA⟩
       refine TG.ap ?_ hS hA
       unfold m42_1 at hr1203
       refine sq (rg (ltI rfl rfl rfl (on (sq ?_))))
       refine ci rfl (fun hc1209 => ?_) (fun hc1209 => ?_)
       ·have hr1210 := if_p hc1209 hr1203
        refine sk (sq (bk (sq (rg (m1 rfl (a1 rfl (on (rg (m1 rfl (m1 rfl ?_))))))))))
        obtain ⟨hk1216, hr1217⟩ := chk_some hr1210
        have := lenA s1200.2 [(s1200.1 : Int)]
        refine ap1 4 (encI .i64) (l := s1200.2) (s1200.1 : Int) T4.E86 rfl rfl rfl rfl rfl rfl rfl rfl rfl rfl rfl rfl hk1216 fun ad1218 cap1219 u1220 => (a1 rfl (on (rg (adI rfl rfl rfl (by omega) (m1 rfl (on ?_))))))
        cases hr1217
        intro a w hS hA
        exact ⟨_, hz1204, ad1218, cap1219, hS, hA.cut ⟨rfl, rfl, rfl, rfl, rfl, tv⟩⟩
       ·have hr1221 := if_n hc1209 hr1203
        refine xt rfl ?_
        cases hr1221
        obtain rfl := Fin.out hz1204
        intro a w hS hA
        exact ⟨ad1201, cap1202, hS, hA.cut ⟨rfl, rfl, rfl, tv⟩⟩
     ·rintro a w ⟨ad1198, cap1199, hS, hA⟩
      refine TG.ap ?_ hS hA
      refine sq (rg (m1 rfl (fn rfl rfl rfl ?_)))
      obtain ⟨t1889, hx1890, hr1891⟩ := bd_some hr1197
      refine clI C87 Tryz.func87 rfl Tryz.ntmps87 rfl rfl rfl rfl (fun v w => (v = .tuple #[] ∧ St M W H [K1160, K1134, K1123, K1118, K1115, K1112, K20, K17, K14, H] [(4, Own.list ad1198 cap1199 3 1 (encI .i64) t1889), (2, cel b1161 133 [.slice ad10 r_2.words.length cap11, .int .i64 r_2.out, .int .i64 r_2.within, .map b1132, .slice ad1129 r1120.1.swaps.length cap1130, .slice none 0 0, .slice none 0 0, .slice (some ⟨b1159, 0, none⟩) ((List.replicate requests.length (0 : Int)).length) requests.length]), (1, Own.list (some ⟨b1159, 0, none⟩) requests.length 31 1 (encI .i64) (List.replicate requests.length (0 : Int)))] w ∧ t1889.length = e1195.length)) ?_ ?_
      ·refine rg (m1 rfl (m1 rfl (TG.len 4 rfl fun _ => (lnL U86 rfl rfl (m1 rfl ?_)))))
       obtain ⟨t2556, hx2557, hr2558⟩ := bd_some hx1890
       refine clI C112 Tryz.func112 rfl Tryz.ntmps112 rfl rfl rfl rfl (fun v w => (v = .tuple #[] ∧ St M W H [K1160, K1134, K1123, K1118, K1115, K1112, K20, K17, K14, H] [(4, Own.list ad1198 cap1199 3 1 (encI .i64) t2556), (2, cel b1161 133 [.slice ad10 r_2.words.length cap11, .int .i64 r_2.out, .int .i64 r_2.within, .map b1132, .slice ad1129 r1120.1.swaps.length cap1130, .slice none 0 0, .slice none 0 0, .slice (some ⟨b1159, 0, none⟩) ((List.replicate requests.length (0 : Int)).length) requests.length]), (1, Own.list (some ⟨b1159, 0, none⟩) requests.length 31 1 (encI .i64) (List.replicate requests.length (0 : Int)))] w ∧ t2556.length = e1195.length)) ?_ ?_
       ·refine sq (rg (a1 rfl (on (sq (rg (m1 rfl (a1 rfl (a1 rfl (on (sq ?_))))))))))
        obtain ⟨e2994, hl2995, hr2996⟩ := bd_some hx2557
        refine jn (fun a w => St M W H [K1160, K1134, K1123, K1118, K1115, K1112, K20, K17, K14, H] [(4, Own.list ad1198 cap1199 3 1 (encI .i64) e2994.2), (2, cel b1161 133 [.slice ad10 r_2.words.length cap11, .int .i64 r_2.out, .int .i64 r_2.within, .map b1132, .slice ad1129 r1120.1.swaps.length cap1130, .slice none 0 0, .slice none 0 0, .slice (some ⟨b1159, 0, none⟩) ((List.replicate requests.length (0 : Int)).length) requests.length]), (1, Own.list (some ⟨b1159, 0, none⟩) requests.length 31 1 (encI .i64) (List.replicate requests.length (0 : Int)))] w ∧ Has [] 63 a [(0, .slice ad1198 e1195.length cap1199), (1, .int .i64 (e1195.length : Int)), (2, .func (.func 88) [].toArray [.pointer (some q1117)].toArray), (6, .int .i64 20), (7, .int .i64 (e2994.1 : Int))] ∧ e2994.2.length = e1195.length) ?_ ?_
        ·refine bk ?_
         refine lp hl2995 (fun s2998 a w => St M W H [K1160, K1134, K1123, K1118, K1115, K1112, K20, K17, K14, H] [(4, Own.list ad1198 cap1199 3 1 (encI .i64) s2998.2.2), (2, cel b1161 133 [.slice ad10 r_2.words.length cap11, .int .i64 r_2.out, .int .i64 r_2.within, .map b1132, .slice ad1129 r1120.1.swaps.length cap1130, .slice none 0 0, .slice none 0 0, .slice (some ⟨b1159, 0, none⟩) ((List.replicate requests.length (0 : Int)).length) requests.length]), (1, Own.list (some ⟨b1159, 0, none⟩) requests.length 31 1 (encI .i64) (List.replicate requests.length (0 : Int)))] w ∧ Has [] 63 a [(0, .slice ad1198 e1195.length cap1199), (1, .int .i64 (e1195.length : Int)), (2, .func (.func 88) [].toArray [.pointer (some q1117)].toArray), (6, .int .i64 20), (7, .int .i64 (s2998.1 : Int)), (8, .int .i64 (s2998.2.1 : Int))] ∧ s2998.2.2.length = e1195.length) ?_ ?_
         ·intro a w hS hA
          exact ⟨hS, hA.cut ⟨rfl, rfl, rfl, rfl, rfl, rfl, tv⟩, rfl⟩
         ·rintro j s2998 y3002 hr3000 hz3001 a w ⟨hS, hA, hln2999⟩
          refine TG.ap ?_ hS hA
          unfold m42_2 at hr3000
          refine sq (sq (rg (m1 rfl (m1 rfl (leI rfl rfl rfl (on ?_))))))
          refine ci rfl (fun hc3006 => ?_) (fun hc3006 => ?_)
          ·have hr3007 := if_p hc3006 hr3000
           refine sk (bk (sq (rg (m1 rfl (m1 rfl (m1 rfl (m1 rfl ?_)))))))
           obtain ⟨t3426, hx3427, hr3428⟩ := bd_some hr3007
           refine clI C122 Tryz.func122 rfl Tryz.ntmps122 rfl rfl rfl rfl (fun v w => (v = .tuple #[] ∧ St M W H [K1160, K1134, K1123, K1118, K1115, K1112, K20, K17, K14, H] [(4, Own.list ad1198 cap1199 3 1 (encI .i64) t3426), (2, cel b1161 133 [.slice ad10 r_2.words.length cap11, .int .i64 r_2.out, .int .i64 r_2.within, .map b1132, .slice ad1129 r1120.1.swaps.length cap1130, .slice none 0 0, .slice none 0 0, .slice (some ⟨b1159, 0, none⟩) ((List.replicate requests.length (0 : Int)).length) requests.length]), (1, Own.list (some ⟨b1159, 0, none⟩) requests.length 31 1 (encI .i64) (List.replicate requests.length (0 : Int)))] w ∧ t3426.length = e1195.length)) ?_ ?_
           ·refine sq (rg (m1 rfl ?_))
            obtain ⟨hk3430, hr3431⟩ := chk_some hx3427
            refine adI rfl rfl rfl hk3430 (a1 rfl (on ?_))
            obtain ⟨e3634, hl3635, hr3636⟩ := bd_some hr3431
            refine jn (fun a w => St M W H [K1160, K1134, K1123, K1118, K1115, K1112, K20, K17, K14, H] [(4, Own.list ad1198 cap1199 3 1 (encI .i64) e3634), (2, cel b1161 133 [.slice ad10 r_2.words.length cap11, .int .i64 r_2.out, .int .i64 r_2.within, .map b1132, .slice ad1129 r1120.1.swaps.length cap1130, .slice none 0 0, .slice none 0 0, .slice (some ⟨b1159, 0, none⟩) ((List.replicate requests.length (0 : Int)).length) requests.length]), (1, Own.list (some ⟨b1159, 0, none⟩) requests.length 31 1 (encI .i64) (List.replicate requests.length (0 : Int)))] w ∧ Has [] 53 a [] ∧ e3634.length = e1195.length) ?_ ?_
            ·refine bk ?_
             refine lp hl3635 (fun s3638 a w => St M W H [K1160, K1134, K1123, K1118, K1115, K1112, K20, K17, K14, H] [(4, Own.list ad1198 cap1199 3 1 (encI .i64) s3638.2), (2, cel b1161 133 [.slice ad10 r_2.words.length cap11, .int .i64 r_2.out, .int .i64 r_2.within, .map b1132, .slice ad1129 r1120.1.swaps.length cap1130, .slice none 0 0, .slice none 0 0, .slice (some ⟨b1159, 0, none⟩) ((List.replicate requests.length (0 : Int)).length) requests.length]), (1, Own.list (some ⟨b1159, 0, none⟩) requests.length 31 1 (encI .i64) (List.replicate requests.length (0 : Int)))] w ∧ Has [] 53 a [(0, .slice ad1198 e1195.length cap1199), (1, .int .i64 (s2998.1 : Int)), (2, .int .i64 (s2998.2.1 : Int)), (3, .func (.func 88) [].toArray [.pointer (some q1117)].toArray), (8, .int .i64 (s3638.1 : Int))] ∧ s3638.2.length = e1195.length) ?_ ?_
             ·intro a w hS hA
              exact ⟨hS, hA.cut ⟨rfl, rfl, rfl, rfl, rfl, tv⟩, hln2999⟩
             ·rintro j s3638 y3642 hr3640 hz3641 a w ⟨hS, hA, hln3639⟩
              refine TG.ap ?_ hS hA
              unfold m42_3 at hr3640
              refine sq (sq (rg (m1 rfl (m1 rfl (ltI rfl rfl rfl (on ?_))))))
              refine ci rfl (fun hc3646 => ?_) (fun hc3646 => ?_)
              ·have hr3647 := if_p hc3646 hr3640
               refine sk (sq (bk (sq (rg (m1 rfl (a1 rfl (on ?_)))))))
               obtain ⟨e3834, hl3835, hr3836⟩ := bd_some hr3647
               refine jn (fun a w => St M W H [K1160, K1134, K1123, K1118, K1115, K1112, K20, K17, K14, H] [(4, Own.list ad1198 cap1199 3 1 (encI .i64) e3834), (2, cel b1161 133 [.slice ad10 r_2.words.length cap11, .int .i64 r_2.out, .int .i64 r_2.within, .map b1132, .slice ad1129 r1120.1.swaps.length cap1130, .slice none 0 0, .slice none 0 0, .slice (some ⟨b1159, 0, none⟩) ((List.replicate requests.length (0 : Int)).length) requests.length]), (1, Own.list (some ⟨b1159, 0, none⟩) requests.length 31 1 (encI .i64) (List.replicate requests.length (0 : Int)))] w ∧ Has [] 53 a [(0, .slice ad1198 e1195.length cap1199), (1, .int .i64 (s2998.1 : Int)), (2, .int .i64 (s2998.2.1 : Int)), (3, .func (.func 88) [].toArray [.pointer (some q1117)].toArray), (8, .int .i64 (s3638.1 : Int))] ∧ e3834.length = e1195.length) ?_ ?_
               ·refine bk ?_
                refine lp hl3835 (fun s3838 a w => St M W H [K1160, K1134, K1123, K1118, K1115, K1112, K20, K17, K14, H] [(4, Own.list ad1198 cap1199 3 1 (encI .i64) s3838.2), (2, cel b1161 133 [.slice ad10 r_2.words.length cap11, .int .i64 r_2.out, .int .i64 r_2.within, .map b1132, .slice ad1129 r1120.1.swaps.length cap1130, .slice none 0 0, .slice none 0 0, .slice (some ⟨b1159, 0, none⟩) ((List.replicate requests.length (0 : Int)).length) requests.length]), (1, Own.list (some ⟨b1159, 0, none⟩) requests.length 31 1 (encI .i64) (List.replicate requests.length (0 : Int)))] w ∧ Has [] 53 a [(0, .slice ad1198 e1195.length cap1199), (1, .int .i64 (s2998.1 : Int)), (2, .int .i64 (s2998.2.1 : Int)), (3, .func (.func 88) [].toArray [.pointer (some q1117)].toArray), (8, .int .i64 (s3638.1 : Int)), (9, .int .i64 s3838.1)] ∧ s3838.2.length = e1195.length) ?_ ?_
                ·intro a w hS hA
                 exact ⟨hS, hA.cut ⟨rfl, rfl, rfl, rfl, rfl, rfl, tv⟩, hln3639⟩
                ·rintro j s3838 y3842 hr3840 hz3841 a w ⟨hS, hA, hln3839⟩
                 refine TG.ap ?_ hS hA
                 unfold m42_4 at hr3840
                 refine sq (sq ?_)
                 obtain ⟨t3864, hx3865, hr3866⟩ := bd_some hr3840
                 refine jn (fun a w => St M W H [K1160, K1134, K1123, K1118, K1115, K1112, K20, K17, K14, H] [(4, Own.list ad1198 cap1199 3 1 (encI .i64) s3838.2), (2, cel b1161 133 [.slice ad10 r_2.words.length cap11, .int .i64 r_2.out, .int .i64 r_2.within, .map b1132, .slice ad1129 r1120.1.swaps.length cap1130, .slice none 0 0, .slice none 0 0, .slice (some ⟨b1159, 0, none⟩) ((List.replicate requests.length (0 : Int)).length) requests.length]), (1, Own.list (some ⟨b1159, 0, none⟩) requests.length 31 1 (encI .i64) (List.replicate requests.length (0 : Int)))] w ∧ Has [] 53 a [(0, .slice ad1198 e1195.length cap1199), (1, .int .i64 (s2998.1 : Int)), (2, .int .i64 (s2998.2.1 : Int)), (3, .func (.func 88) [].toArray [.pointer (some q1117)].toArray), (8, .int .i64 (s3638.1 : Int)), (9, .int .i64 s3838.1), (34, .bool t3864)]) ?_ ?_
                 ·by_cases hb3867 : (s2998.1 : Int) < s3838.1
                  ·have hr3868 := if_p hb3867 hx3865
                   obtain ⟨hk3869, hr3870⟩ := chk_some hr3868
                   obtain ⟨x3871, hx3872, hr3873⟩ := bd_some hr3870
                   refine TG.addr 4 rfl (lt_of0 hx3872) fun b3874 h => ?_; subst h
                   obtain ⟨hk3875, hr3876⟩ := chk_some hr3873
                   obtain ⟨hk3877, hr3878⟩ := chk_some hr3876
                   obtain ⟨x3879, hx3880, hr3881⟩ := bd_some hr3878
                   refine drG 14 mixed (by kernel_rfl) rfl (dt rfl (m1 rfl fin1) (dt rfl (m1 rfl fin1) (dt rfl (gtI rfl rfl rfl fin1) (dt rfl (m1 rfl fin1) (dt rfl (gt hb3867 rfl (m1 rfl fin1)) (dt rfl (gt hb3867 rfl (m1 rfl fin1)) (dt rfl (gt hb3867 rfl (m1 rfl fin1)) (dt rfl (gt hb3867 rfl (iaP U86 Z3 rfl rfl rfl (by omega) (Nat.lt_of_lt_of_eq (lt_of hx3872) hln3839) fin1)) (dt rfl (gt hb3867 rfl (ld G3 rfl rfl (sE 4 rfl (fun _ => rfl) hx3872) rfl fin1)) (dt rfl (gt hb3867 rfl (m1 rfl fin1)) (dt rfl (gt hb3867 rfl (m1 rfl fin1)) ?_)))))))))))
                   refine dt rfl (gt hb3867 rfl (sbI rfl rfl rfl hk3875 fin1)) (dt rfl (gt hb3867 rfl (iaP U86 Z3 rfl rfl rfl (by omega) (Nat.lt_of_lt_of_eq (lt_of hx3880) hln3839) fin1)) (dt rfl (gt hb3867 rfl (ld G3 rfl rfl (sE 4 rfl (fun _ => rfl) hx3880) rfl fin1)) (DF.nil fun K3882 hF => (gt hb3867 rfl ?_))))
                   obtain ⟨r3883, hx3884, hr3885⟩ := bd_some hr3881
                   refine clS C88 rfl rfl rfl rfl (fun w H hH le => w88 hH x3871 x3879 (f0_ := requests) (hK1119.mono (le.at 4 rfl)) (h_requests.mono (RRequest.mono) (le.at 10 rfl)) hx3884) (gt hb3867 rfl (ltI rfl rfl rfl (pt hb3867 rfl rfl (on ?_))))
                   cases hr3885
                   intro a w hS hA
                   exact ⟨hS.selH [1, 2, 3, 4, 5, 6, 7, 8, 9, 10] rfl, hA.cut ⟨rfl, rfl, rfl, rfl, rfl, rfl, rfl, tv⟩⟩
                  ·have hr3886 := if_n hb3867 hx3865
                   refine drG 14 mixed (by kernel_rfl) rfl (dt rfl (m1 rfl fin1) (dt rfl (m1 rfl fin1) (dt rfl (gtI rfl rfl rfl fin1) (dt rfl (m1 rfl fin1) (dt rfl (gf hb3867 rfl fin1) (dt rfl (gf hb3867 rfl fin1) (dt rfl (gf hb3867 rfl fin1) (dt rfl (gf hb3867 rfl fin1) (dt rfl (gf hb3867 rfl fin1) (dt rfl (gf hb3867 rfl fin1) (dt rfl (gf hb3867 rfl fin1) ?_)))))))))))
                   refine dt rfl (gf hb3867 rfl fin1) (dt rfl (gf hb3867 rfl fin1) (dt rfl (gf hb3867 rfl fin1) (DF.nil fun K3887 hF => (gf hb3867 rfl (gf hb3867 rfl (pf hb3867 rfl rfl (on ?_)))))))
                   cases hr3886
                   intro a w hS hA
                   exact ⟨hS.selH [1, 2, 3, 4, 5, 6, 7, 8, 9, 10] rfl, hA.cut ⟨rfl, rfl, rfl, rfl, rfl, rfl, rfl, tv⟩⟩
                 ·rintro a w ⟨hS, hA⟩
                  refine TG.ap ?_ hS hA
                  refine cb rfl (fun hc3891 => ?_) (fun hc3891 => ?_)
                  ·have hr3892 := if_p hc3891 hr3866
                   refine sk (sq (bk ?_))
                   obtain ⟨hk3912, hr3913⟩ := chk_some hr3892
                   obtain ⟨hk3914, hr3915⟩ := chk_some hr3913
                   obtain ⟨x3916, hx3917, hr3918⟩ := bd_some hr3915
                   refine TG.addr 4 rfl (lt_of0 hx3917) fun b3919 h => ?_; subst h
                   obtain ⟨hk3920, hr3921⟩ := chk_some hr3918
                   obtain ⟨x3922, hx3923, hr3924⟩ := bd_some hr3921
                   refine drG3 14 [] [(2, 39, .slice (some ⟨b3919, 0, none⟩) e1195.length cap1199), (3, 40, .int .i64 s3838.1), (4, 41, .int .i64 (s3838.1 - 1))] mixed (fun _ _ _ _ _ h => h) (by kernel_rfl) (by kernel_rfl) (by kernel_rfl) rfl (by kernel_rfl) (.cons rfl rfl rfl (fun _ => rfl) (by kernel_rfl) (by kernel_rfl) (fun _ _ => rfl) (mvY rfl) (.cons rfl rfl rfl (fun _ => rfl) (by kernel_rfl) (by kernel_rfl) (fun _ _ => rfl) (mvY rfl) (.cons rfl rfl rfl (fun _ => rfl) (by kernel_rfl) (by kernel_rfl) (fun _ _ => rfl) (sbIY rfl rfl hk3912) (.nil)))) (dc rfl (by kernel_rfl) tv rfl rfl (m1 rfl fin1) (dc rfl (by kernel_rfl) tv rfl rfl (m1 rfl fin1) (DC.pre (.head _) rfl (DC.pre (.tail _ (.head _)) rfl (DC.pre (.tail _ (.tail _ (.head _))) rfl (dc rfl (by kernel_rfl) tv rfl rfl (m1 rfl fin1) (dc rfl (by kernel_rfl) tv rfl rfl (m1 rfl fin1) (dc rfl (by kernel_rfl) tv rfl rfl (sbI rfl rfl rfl hk3912 fin1) (dc rfl (by kernel_rfl) tv rfl rfl (iaP U86 Z3 rfl rfl rfl (by omega) (Nat.lt_of_lt_of_eq (lt_of hx3917) hln3839) fin1) (dc rfl (by kernel_rfl) tv rfl rfl (ld G3 rfl rfl (sE 4 rfl (fun _ => rfl) hx3917) rfl fin1) (dc rfl (by kernel_rfl) tv rfl rfl (m1 rfl fin1) ?_)))))))))))
                   refine dc rfl (by kernel_rfl) tv rfl rfl (m1 rfl fin1) (dc rfl (by kernel_rfl) tv rfl rfl (iaP U86 Z3 rfl rfl rfl (by omega) (Nat.lt_of_lt_of_eq (lt_of hx3923) hln3839) fin1) (dc rfl (by kernel_rfl) tv rfl rfl (ld G3 rfl rfl (sE 4 rfl (fun _ => rfl) hx3923) rfl fin1) (DC.nil fun K3925 hF => (iaP U86 Z3 rfl rfl rfl (by omega) (Nat.lt_of_lt_of_eq (lt_of hx3923) hln3839) ?_))))
                   have hln3926 : (s3838.2.set s3838.1.toNat x3916).length = e1195.length := (lenS _ _ _).trans hln3839
                   refine stE 4 x3916 (q := ⟨b3919, 0, none⟩) (j := s3838.1.toNat) (size := 1) (cs := [.int .i64 x3916]) (off := 0) Z3 rfl rfl rfl (fun _ => rfl) hx3923 rfl rfl rfl rfl rfl ?_
                   obtain ⟨x3927, hx3928, hr3929⟩ := bd_some hr3924
                   refine iaP U86 Z3 rfl rfl rfl (by omega) (Nat.lt_of_lt_of_eq (lt_of hx3928) hln3926) ?_
                   have hln3930 : ((s3838.2.set s3838.1.toNat x3916).set ((s3838.1 - 1).toNat) x3922).length = e1195.length := (lenS _ _ _).trans hln3926
                   refine stE 4 x3922 (q := ⟨b3919, 0, none⟩) (j := (s3838.1 - 1).toNat) (size := 1) (cs := [.int .i64 x3922]) (off := 0) Z3 rfl rfl rfl (fun _ => rfl) hx3928 rfl rfl rfl rfl rfl (on (rg (m1 rfl (sbI rfl rfl rfl hk3912 (a1 rfl (on ?_))))))
                   cases hr3929
                   intro a w hS hA
                   exact ⟨_, hz3841, hS.selH [1, 2, 3, 4, 5, 6, 7, 8, 9, 10] rfl, hA.cut ⟨rfl, rfl, rfl, rfl, rfl, rfl, tv⟩, hln3930⟩
                  ·have hr3931 := if_f hc3891 hr3866
                   refine xt rfl ?_
                   cases hr3931
                   obtain rfl := Fin.out hz3841
                   intro a w hS hA
                   exact ⟨hS, hA.cut ⟨rfl, rfl, rfl, rfl, rfl, tv⟩, hln3839⟩
               ·rintro a w ⟨hS, hA, hln3837⟩
                refine TG.ap ?_ hS hA
                refine rg (m1 rfl ?_)
                obtain ⟨hk3932, hr3933⟩ := chk_some hr3836
                refine adI rfl rfl rfl hk3932 (a1 rfl (on ?_))
                cases hr3933
                intro a w hS hA
                exact ⟨_, hz3641, hS, hA.cut ⟨rfl, rfl, rfl, rfl, rfl, tv⟩, hln3837⟩
              ·have hr3934 := if_n hc3646 hr3640
               refine xt rfl ?_
               cases hr3934
               obtain rfl := Fin.out hz3641
               intro a w hS hA
               exact ⟨hS, hA.cut tv, hln3639⟩
            ·rintro a w ⟨hS, hA, hln3637⟩
             refine TG.ap ?_ hS hA
             cases hr3636
             intro a w hS hA
             refine ret0 hA rfl ?_
             exact ⟨_, rfl, ⟨rfl, hS, hln3637⟩⟩
           ·rintro a w v hA (⟨rfl, hS, hln3429⟩)
            refine putK rfl hA hS (on (sq (rg (m1 rfl (a1 rfl (on (rg (m1 rfl (m1 rfl ?_)))))))))
            obtain ⟨hk3935, hr3936⟩ := chk_some hr3428
            refine adI rfl rfl rfl hk3935 (a1 rfl (on ?_))
            cases hr3936
            intro a w hS hA
            exact ⟨_, hz3001, hS, hA.cut ⟨rfl, rfl, rfl, rfl, rfl, rfl, tv⟩, hln3429⟩
          ·have hr3937 := if_n hc3006 hr3000
           refine xt rfl ?_
           cases hr3937
           obtain rfl := Fin.out hz3001
           intro a w hS hA
           exact ⟨hS, hA.cut ⟨rfl, rfl, rfl, rfl, rfl, tv⟩, hln2999⟩
        ·rintro a w ⟨hS, hA, hln2997⟩
         refine TG.ap ?_ hS hA
         refine sq (rg (m1 rfl (m1 rfl (m1 rfl (m1 rfl ?_)))))
         obtain ⟨t4140, hx4141, hr4142⟩ := bd_some hr2996
         refine clI C122 Tryz.func122 rfl Tryz.ntmps122 rfl rfl rfl rfl (fun v w => (v = .tuple #[] ∧ St M W H [K1160, K1134, K1123, K1118, K1115, K1112, K20, K17, K14, H] [(4, Own.list ad1198 cap1199 3 1 (encI .i64) t4140), (2, cel b1161 133 [.slice ad10 r_2.words.length cap11, .int .i64 r_2.out, .int .i64 r_2.within, .map b1132, .slice ad1129 r1120.1.swaps.length cap1130, .slice none 0 0, .slice none 0 0, .slice (some ⟨b1159, 0, none⟩) ((List.replicate requests.length (0 : Int)).length) requests.length]), (1, Own.list (some ⟨b1159, 0, none⟩) requests.length 31 1 (encI .i64) (List.replicate requests.length (0 : Int)))] w ∧ t4140.length = e1195.length)) ?_ ?_
         ·refine sq (rg (m1 rfl ?_))
          obtain ⟨hk4144, hr4145⟩ := chk_some hx4141
          refine adI rfl rfl rfl hk4144 (a1 rfl (on ?_))
          obtain ⟨e4344, hl4345, hr4346⟩ := bd_some hr4145
          refine jn (fun a w => St M W H [K1160, K1134, K1123, K1118, K1115, K1112, K20, K17, K14, H] [(4, Own.list ad1198 cap1199 3 1 (encI .i64) e4344), (2, cel b1161 133 [.slice ad10 r_2.words.length cap11, .int .i64 r_2.out, .int .i64 r_2.within, .map b1132, .slice ad1129 r1120.1.swaps.length cap1130, .slice none 0 0, .slice none 0 0, .slice (some ⟨b1159, 0, none⟩) ((List.replicate requests.length (0 : Int)).length) requests.length]), (1, Own.list (some ⟨b1159, 0, none⟩) requests.length 31 1 (encI .i64) (List.replicate requests.length (0 : Int)))] w ∧ Has [] 53 a [] ∧ e4344.length = e1195.length) ?_ ?_
          ·refine bk ?_
           refine lp hl4345 (fun s4348 a w => St M W H [K1160, K1134, K1123, K1118, K1115, K1112, K20, K17, K14, H] [(4, Own.list ad1198 cap1199 3 1 (encI .i64) s4348.2), (2, cel b1161 133 [.slice ad10 r_2.words.length cap11, .int .i64 r_2.out, .int .i64 r_2.within, .map b1132, .slice ad1129 r1120.1.swaps.length cap1130, .slice none 0 0, .slice none 0 0, .slice (some ⟨b1159, 0, none⟩) ((List.replicate requests.length (0 : Int)).length) requests.length]), (1, Own.list (some ⟨b1159, 0, none⟩) requests.length 31 1 (encI .i64) (List.replicate requests.length (0 : Int)))] w ∧ Has [] 53 a [(0, .slice ad1198 e1195.length cap1199), (1, .int .i64 (e2994.1 : Int)), (2, .int .i64 (e1195.length : Int)), (3, .func (.func 88) [].toArray [.pointer (some q1117)].toArray), (8, .int .i64 (s4348.1 : Int))] ∧ s4348.2.length = e1195.length) ?_ ?_
           ·intro a w hS hA
            exact ⟨hS, hA.cut ⟨rfl, rfl, rfl, rfl, rfl, tv⟩, hln2997⟩
           ·rintro j s4348 y4352 hr4350 hz4351 a w ⟨hS, hA, hln4349⟩
            refine TG.ap ?_ hS hA
            unfold m42_5 at hr4350
            refine sq (sq (rg (m1 rfl (m1 rfl (ltI rfl rfl rfl (on ?_))))))
            refine ci rfl (fun hc4356 => ?_) (fun hc4356 => ?_)
            ·have hr4357 := if_p hc4356 hr4350
             refine sk (sq (bk (sq (rg (m1 rfl (a1 rfl (on ?_)))))))
             obtain ⟨e4544, hl4545, hr4546⟩ := bd_some hr4357
             refine jn (fun a w => St M W H [K1160, K1134, K1123, K1118, K1115, K1112, K20, K17, K14, H] [(4, Own.list ad1198 cap1199 3 1 (encI .i64) e4544), (2, cel b1161 133 [.slice ad10 r_2.words.length cap11, .int .i64 r_2.out, .int .i64 r_2.within, .map b1132, .slice ad1129 r1120.1.swaps.length cap1130, .slice none 0 0, .slice none 0 0, .slice (some ⟨b1159, 0, none⟩) ((List.replicate requests.length (0 : Int)).length) requests.length]), (1, Own.list (some ⟨b1159, 0, none⟩) requests.length 31 1 (encI .i64) (List.replicate requests.length (0 : Int)))] w ∧ Has [] 53 a [(0, .slice ad1198 e1195.length cap1199), (1, .int .i64 (e2994.1 : Int)), (2, .int .i64 (e1195.length : Int)), (3, .func (.func 88) [].toArray [.pointer (some q1117)].toArray), (8, .int .i64 (s4348.1 : Int))] ∧ e4544.length = e1195.length) ?_ ?_
             ·refine bk ?_
              refine lp hl4545 (fun s4548 a w => St M W H [K1160, K1134, K1123, K1118, K1115, K1112, K20, K17, K14, H] [(4, Own.list ad1198 cap1199 3 1 (encI .i64) s4548.2), (2, cel b1161 133 [.slice ad10 r_2.words.length cap11, .int .i64 r_2.out, .int .i64 r_2.within, .map b1132, .slice ad1129 r1120.1.swaps.length cap1130, .slice none 0 0, .slice none 0 0, .slice (some ⟨b1159, 0, none⟩) ((List.replicate requests.length (0 : Int)).length) requests.length]), (1, Own.list (some ⟨b1159, 0, none⟩) requests.length 31 1 (encI .i64) (List.replicate requests.length (0 : Int)))] w ∧ Has [] 53 a [(0, .slice ad1198 e1195.length cap1199), (1, .int .i64 (e2994.1 : Int)), (2, .int .i64 (e1195.length : Int)), (3, .func (.func 88) [].toArray [.pointer (some q1117)].toArray), (8, .int .i64 (s4348.1 : Int)), (9, .int .i64 s4548.1)] ∧ s4548.2.length = e1195.length) ?_ ?_
              ·intro a w hS hA
               exact ⟨hS, hA.cut ⟨rfl, rfl, rfl, rfl, rfl, rfl, tv⟩, hln4349⟩
              ·rintro j s4548 y4552 hr4550 hz4551 a w ⟨hS, hA, hln4549⟩
               refine TG.ap ?_ hS hA
               unfold m42_6 at hr4550
               refine sq (sq ?_)
               obtain ⟨t4574, hx4575, hr4576⟩ := bd_some hr4550
               refine jn (fun a w => St M W H [K1160, K1134, K1123, K1118, K1115, K1112, K20, K17, K14, H] [(4, Own.list ad1198 cap1199 3 1 (encI .i64) s4548.2), (2, cel b1161 133 [.slice ad10 r_2.words.length cap11, .int .i64 r_2.out, .int .i64 r_2.within, .map b1132, .slice ad1129 r1120.1.swaps.length cap1130, .slice none 0 0, .slice none 0 0, .slice (some ⟨b1159, 0, none⟩) ((List.replicate requests.length (0 : Int)).length) requests.length]), (1, Own.list (some ⟨b1159, 0, none⟩) requests.length 31 1 (encI .i64) (List.replicate requests.length (0 : Int)))] w ∧ Has [] 53 a [(0, .slice ad1198 e1195.length cap1199), (1, .int .i64 (e2994.1 : Int)), (2, .int .i64 (e1195.length : Int)), (3, .func (.func 88) [].toArray [.pointer (some q1117)].toArray), (8, .int .i64 (s4348.1 : Int)), (9, .int .i64 s4548.1), (34, .bool t4574)]) ?_ ?_
               ·by_cases hb4577 : (e2994.1 : Int) < s4548.1
                ·have hr4578 := if_p hb4577 hx4575
                 obtain ⟨hk4579, hr4580⟩ := chk_some hr4578
                 obtain ⟨x4581, hx4582, hr4583⟩ := bd_some hr4580
                 refine TG.addr 4 rfl (lt_of0 hx4582) fun b4584 h => ?_; subst h
                 obtain ⟨hk4585, hr4586⟩ := chk_some hr4583
                 obtain ⟨hk4587, hr4588⟩ := chk_some hr4586
                 obtain ⟨x4589, hx4590, hr4591⟩ := bd_some hr4588
                 refine drG 14 mixed (by kernel_rfl) rfl (dt rfl (m1 rfl fin1) (dt rfl (m1 rfl fin1) (dt rfl (gtI rfl rfl rfl fin1) (dt rfl (m1 rfl fin1) (dt rfl (gt hb4577 rfl (m1 rfl fin1)) (dt rfl (gt hb4577 rfl (m1 rfl fin1)) (dt rfl (gt hb4577 rfl (m1 rfl fin1)) (dt rfl (gt hb4577 rfl (iaP U86 Z3 rfl rfl rfl (by omega) (Nat.lt_of_lt_of_eq (lt_of hx4582) hln4549) fin1)) (dt rfl (gt hb4577 rfl (ld G3 rfl rfl (sE 4 rfl (fun _ => rfl) hx4582) rfl fin1)) (dt rfl (gt hb4577 rfl (m1 rfl fin1)) (dt rfl (gt hb4577 rfl (m1 rfl fin1)) ?_)))))))))))
                 refine dt rfl (gt hb4577 rfl (sbI rfl rfl rfl hk4585 fin1)) (dt rfl (gt hb4577 rfl (iaP U86 Z3 rfl rfl rfl (by omega) (Nat.lt_of_lt_of_eq (lt_of hx4590) hln4549) fin1)) (dt rfl (gt hb4577 rfl (ld G3 rfl rfl (sE 4 rfl (fun _ => rfl) hx4590) rfl fin1)) (DF.nil fun K4592 hF => (gt hb4577 rfl ?_))))
                 obtain ⟨r4593, hx4594, hr4595⟩ := bd_some hr4591
                 refine clS C88 rfl rfl rfl rfl (fun w H hH le => w88 hH x4581 x4589 (f0_ := requests) (hK1119.mono (le.at 4 rfl)) (h_requests.mono (RRequest.mono) (le.at 10 rfl)) hx4594) (gt hb4577 rfl (ltI rfl rfl rfl (pt hb4577 rfl rfl (on ?_))))
                 cases hr4595
                 intro a w hS hA
                 exact ⟨hS.selH [1, 2, 3, 4, 5, 6, 7, 8, 9, 10] rfl, hA.cut ⟨rfl, rfl, rfl, rfl, rfl, rfl, rfl, tv⟩⟩
                ·have hr4596 := if_n hb4577 hx4575
                 refine drG 14 mixed (by kernel_rfl) rfl (dt rfl (m1 rfl fin1) (dt rfl (m1 rfl fin1) (dt rfl (gtI rfl rfl rfl fin1) (dt rfl (m1 rfl fin1) (dt rfl (gf hb4577 rfl fin1) (dt rfl (gf hb4577 rfl fin1) (dt rfl (gf hb4577 rfl fin1) (dt rfl (gf hb4577 rfl fin1) (dt rfl (gf hb4577 rfl fin1) (dt rfl (gf hb4577 rfl fin1) (dt rfl (gf hb4577 rfl fin1) ?_)))))))))))
                 refine dt rfl (gf hb4577 rfl fin1) (dt rfl (gf hb4577 rfl fin1) (dt rfl (gf hb4577 rfl fin1) (DF.nil fun K4597 hF => (gf hb4577 rfl (gf hb4577 rfl (pf hb4577 rfl rfl (on ?_)))))))
                 cases hr4596
                 intro a w hS hA
                 exact ⟨hS.selH [1, 2, 3, 4, 5, 6, 7, 8, 9, 10] rfl, hA.cut ⟨rfl, rfl, rfl, rfl, rfl, rfl, rfl, tv⟩⟩
               ·rintro a w ⟨hS, hA⟩
                refine TG.ap ?_ hS hA
                refine cb rfl (fun hc4601 => ?_) (fun hc4601 => ?_)
                ·have hr4602 := if_p hc4601 hr4576
                 refine sk (sq (bk ?_))
                 obtain ⟨hk4622, hr4623⟩ := chk_some hr4602
                 obtain ⟨hk4624, hr4625⟩ := chk_some hr4623
                 obtain ⟨x4626, hx4627, hr4628⟩ := bd_some hr4625
                 refine TG.addr 4 rfl (lt_of0 hx4627) fun b4629 h => ?_; subst h
                 obtain ⟨hk4630, hr4631⟩ := chk_some hr4628
                 obtain ⟨x4632, hx4633, hr4634⟩ := bd_some hr4631
                 refine drG3 14 [] [(2, 39, .slice (some ⟨b4629, 0, none⟩) e1195.length cap1199), (3, 40, .int .i64 s4548.1), (4, 41, .int .i64 (s4548.1 - 1))] mixed (fun _ _ _ _ _ h => h) (by kernel_rfl) (by kernel_rfl) (by kernel_rfl) rfl (by kernel_rfl) (.cons rfl rfl rfl (fun _ => rfl) (by kernel_rfl) (by kernel_rfl) (fun _ _ => rfl) (mvY rfl) (.cons rfl rfl rfl (fun _ => rfl) (by kernel_rfl) (by kernel_rfl) (fun _ _ => rfl) (mvY rfl) (.cons rfl rfl rfl (fun _ => rfl) (by kernel_rfl) (by kernel_rfl) (fun _ _ => rfl) (sbIY rfl rfl hk4622) (.nil)))) (dc rfl (by kernel_rfl) tv rfl rfl (m1 rfl fin1) (dc rfl (by kernel_rfl) tv rfl rfl (m1 rfl fin1) (DC.pre (.head _) rfl (DC.pre (.tail _ (.head _)) rfl (DC.pre (.tail _ (.tail _ (.head _))) rfl (dc rfl (by kernel_rfl) tv rfl rfl (m1 rfl fin1) (dc rfl (by kernel_rfl) tv rfl rfl (m1 rfl fin1) (dc rfl (by kernel_rfl) tv rfl rfl (sbI rfl rfl rfl hk4622 fin1) (dc rfl (by kernel_rfl) tv rfl rfl (iaP U86 Z3 rfl rfl rfl (by omega) (Nat.lt_of_lt_of_eq (lt_of hx4627) hln4549) fin1) (dc rfl (by kernel_rfl) tv rfl rfl (ld G3 rfl rfl (sE 4 rfl (fun _ => rfl) hx4627) rfl fin1) (dc rfl (by kernel_rfl) tv rfl rfl (m1 rfl fin1) ?_)))))))))))
                 refine dc rfl (by kernel_rfl) tv rfl rfl (m1 rfl fin1) (dc rfl (by kernel_rfl) tv rfl rfl (iaP U86 Z3 rfl rfl rfl (by omega) (Nat.lt_of_lt_of_eq (lt_of hx4633) hln4549) fin1) (dc rfl (by kernel_rfl) tv rfl rfl (ld G3 rfl rfl (sE 4 rfl (fun _ => rfl) hx4633) rfl fin1) (DC.nil fun K4635 hF => (iaP U86 Z3 rfl rfl rfl (by omega) (Nat.lt_of_lt_of_eq (lt_of hx4633) hln4549) ?_))))
                 have hln4636 : (s4548.2.set s4548.1.toNat x4626).length = e1195.length := (lenS _ _ _).trans hln4549
                 refine stE 4 x4626 (q := ⟨b4629, 0, none⟩) (j := s4548.1.toNat) (size := 1) (cs := [.int .i64 x4626]) (off := 0) Z3 rfl rfl rfl (fun _ => rfl) hx4633 rfl rfl rfl rfl rfl ?_
                 obtain ⟨x4637, hx4638, hr4639⟩ := bd_some hr4634
                 refine iaP U86 Z3 rfl rfl rfl (by omega) (Nat.lt_of_lt_of_eq (lt_of hx4638) hln4636) ?_
                 have hln4640 : ((s4548.2.set s4548.1.toNat x4626).set ((s4548.1 - 1).toNat) x4632).length = e1195.length := (lenS _ _ _).trans hln4636
                 refine stE 4 x4632 (q := ⟨b4629, 0, none⟩) (j := (s4548.1 - 1).toNat) (size := 1) (cs := [.int .i64 x4632]) (off := 0) Z3 rfl rfl rfl (fun _ => rfl) hx4638 rfl rfl rfl rfl rfl (on (rg (m1 rfl (sbI rfl rfl rfl hk4622 (a1 rfl (on ?_))))))
                 cases hr4639
                 intro a w hS hA
                 exact ⟨_, hz4551, hS.selH [1, 2, 3, 4, 5, 6, 7, 8, 9, 10] rfl, hA.cut ⟨rfl, rfl, rfl, rfl, rfl, rfl, tv⟩, hln4640⟩
                ·have hr4641 := if_f hc4601 hr4576
                 refine xt rfl ?_
                 cases hr4641
                 obtain rfl := Fin.out hz4551
                 intro a w hS hA
                 exact ⟨hS, hA.cut ⟨rfl, rfl, rfl, rfl, rfl, tv⟩, hln4549⟩
             ·rintro a w ⟨hS, hA, hln4547⟩
              refine TG.ap ?_ hS hA
              refine rg (m1 rfl (adI rfl rfl rfl (by omega) (a1 rfl (on ?_))))
              cases hr4546
              intro a w hS hA
              exact ⟨_, hz4351, hS, hA.cut ⟨rfl, rfl, rfl, rfl, rfl, tv⟩, hln4547⟩
            ·have hr4642 := if_n hc4356 hr4350
             refine xt rfl ?_
             cases hr4642
             obtain rfl := Fin.out hz4351
             intro a w hS hA
             exact ⟨hS, hA.cut tv, hln4349⟩
          ·rintro a w ⟨hS, hA, hln4347⟩
           refine TG.ap ?_ hS hA
           cases hr4346
           intro a w hS hA
           refine ret0 hA rfl ?_
           exact ⟨_, rfl, ⟨rfl, hS, hln4347⟩⟩
         ·rintro a w v hA (⟨rfl, hS, hln4143⟩)
          refine putK rfl hA hS (on ?_)
          obtain ⟨e4663, hl4664, hr4665⟩ := bd_some hr4142
          refine jn (fun a w => St M W H [K1160, K1134, K1123, K1118, K1115, K1112, K20, K17, K14, H] [(4, Own.list ad1198 cap1199 3 1 (encI .i64) t4140), (2, cel b1161 133 [.slice ad10 r_2.words.length cap11, .int .i64 r_2.out, .int .i64 r_2.within, .map b1132, .slice ad1129 r1120.1.swaps.length cap1130, .slice none 0 0, .slice none 0 0, .slice (some ⟨b1159, 0, none⟩) ((List.replicate requests.length (0 : Int)).length) requests.length]), (1, Own.list (some ⟨b1159, 0, none⟩) requests.length 31 1 (encI .i64) (List.replicate requests.length (0 : Int)))] w ∧ Has [] 63 a []) ?_ ?_
          ·refine bk ?_
           refine lp hl4664 (fun s4666 a w => St M W H [K1160, K1134, K1123, K1118, K1115, K1112, K20, K17, K14, H] [(4, Own.list ad1198 cap1199 3 1 (encI .i64) t4140), (2, cel b1161 133 [.slice ad10 r_2.words.length cap11, .int .i64 r_2.out, .int .i64 r_2.within, .map b1132, .slice ad1129 r1120.1.swaps.length cap1130, .slice none 0 0, .slice none 0 0, .slice (some ⟨b1159, 0, none⟩) ((List.replicate requests.length (0 : Int)).length) requests.length]), (1, Own.list (some ⟨b1159, 0, none⟩) requests.length 31 1 (encI .i64) (List.replicate requests.length (0 : Int)))] w ∧ Has [] 63 a [(0, .slice ad1198 e1195.length cap1199), (1, .int .i64 (e1195.length : Int)), (2, .func (.func 88) [].toArray [.pointer (some q1117)].toArray), (6, .int .i64 s4666)]) ?_ ?_
           ·exact cu ⟨rfl, rfl, rfl, rfl, tv⟩
           ·rintro j s4666 y4669 hr4667 hz4668 a w ⟨hS, hA⟩
            refine TG.ap ?_ hS hA
            unfold m42_7 at hr4667
            refine sq (sq (rg (m1 rfl (m1 rfl (ltI rfl rfl rfl (on ?_))))))
            refine ci rfl (fun hc4673 => ?_) (fun hc4673 => ?_)
            ·have hr4674 := if_p hc4673 hr4667
             refine sk (bk (sq (rg (m1 rfl ?_))))
             obtain ⟨hk4691, hr4692⟩ := chk_some hr4674
             refine mlI rfl rfl rfl hk4691 (a1 rfl (a1 rfl (on (sq ?_))))
             obtain ⟨e4699, hl4700, hr4701⟩ := bd_some hr4692
             refine jn (fun a w => St M W H [K1160, K1134, K1123, K1118, K1115, K1112, K20, K17, K14, H] [(4, Own.list ad1198 cap1199 3 1 (encI .i64) t4140), (2, cel b1161 133 [.slice ad10 r_2.words.length cap11, .int .i64 r_2.out, .int .i64 r_2.within, .map b1132, .slice ad1129 r1120.1.swaps.length cap1130, .slice none 0 0, .slice none 0 0, .slice (some ⟨b1159, 0, none⟩) ((List.replicate requests.length (0 : Int)).length) requests.length]), (1, Own.list (some ⟨b1159, 0, none⟩) requests.length 31 1 (encI .i64) (List.replicate requests.length (0 : Int)))] w ∧ Has [] 63 a [(0, .slice ad1198 e1195.length cap1199), (1, .int .i64 (e1195.length : Int)), (2, .func (.func 88) [].toArray [.pointer (some q1117)].toArray), (6, .int .i64 s4666), (7, .int .i64 (e4699 : Int))]) ?_ ?_
             ·refine bk ?_
              refine lp hl4700 (fun s4702 a w => St M W H [K1160, K1134, K1123, K1118, K1115, K1112, K20, K17, K14, H] [(4, Own.list ad1198 cap1199 3 1 (encI .i64) t4140), (2, cel b1161 133 [.slice ad10 r_2.words.length cap11, .int .i64 r_2.out, .int .i64 r_2.within, .map b1132, .slice ad1129 r1120.1.swaps.length cap1130, .slice none 0 0, .slice none 0 0, .slice (some ⟨b1159, 0, none⟩) ((List.replicate requests.length (0 : Int)).length) requests.length]), (1, Own.list (some ⟨b1159, 0, none⟩) requests.length 31 1 (encI .i64) (List.replicate requests.length (0 : Int)))] w ∧ Has [] 63 a [(0, .slice ad1198 e1195.length cap1199), (1, .int .i64 (e1195.length : Int)), (2, .func (.func 88) [].toArray [.pointer (some q1117)].toArray), (6, .int .i64 s4666), (7, .int .i64 (s4702.1 : Int)), (8, .int .i64 s4702.2)]) ?_ ?_
              ·exact cu ⟨rfl, rfl, rfl, rfl, rfl, rfl, tv⟩
              ·rintro j s4702 y4705 hr4703 hz4704 a w ⟨hS, hA⟩
               refine TG.ap ?_ hS hA
               unfold m42_8 at hr4703
               refine sq (sq (rg (m1 rfl (m1 rfl (leI rfl rfl rfl (on ?_))))))
               refine ci rfl (fun hc4709 => ?_) (fun hc4709 => ?_)
               ·have hr4710 := if_p hc4709 hr4703
                refine sk (bk (sq (rg (m1 rfl (m1 rfl (m1 rfl (m1 rfl ?_)))))))
                obtain ⟨hk4713, hr4714⟩ := chk_some hr4710
                refine adI rfl rfl rfl hk4713 (m1 rfl (m1 rfl ?_))
                cases hr4714
               ·have hr4715 := if_n hc4709 hr4703
                refine xt rfl ?_
                cases hr4715
                obtain rfl := Fin.out hz4704
                exact cu ⟨rfl, rfl, rfl, rfl, rfl, tv⟩
             ·rintro a w ⟨hS, hA⟩
              refine TG.ap ?_ hS hA
              refine sq (sq (rg (m1 rfl (m1 rfl ?_))))
              obtain ⟨hk4716, hr4717⟩ := chk_some hr4701
              refine adI rfl rfl rfl hk4716 (a1 rfl (on (sq (rg (m1 rfl (m1 rfl (ltI rfl rfl rfl (on ?_))))))))
              refine ci rfl (fun hc4721 => ?_) (fun hc4721 => ?_)
              ·have hr4722 := if_p hc4721 hr4717
               refine rg (m1 rfl (m1 rfl (m1 rfl (m1 rfl (m1 rfl ?_)))))
               cases hr4722
              ·have hr4723 := if_n hc4721 hr4717
               refine sk (rg (m1 rfl ?_))
               obtain ⟨hk4724, hr4725⟩ := chk_some hr4723
               refine mlI rfl rfl rfl hk4724 (a1 rfl (on ?_))
               cases hr4725
               intro a w hS hA
               exact ⟨_, hz4668, hS, hA.cut ⟨rfl, rfl, rfl, rfl, tv⟩⟩
            ·have hr4726 := if_n hc4673 hr4667
             refine xt rfl ?_
             cases hr4726
             obtain rfl := Fin.out hz4668
             exact cu tv
          ·rintro a w ⟨hS, hA⟩
           refine TG.ap ?_ hS hA
           cases hr4665
           intro a w hS hA
           refine ret0 hA rfl ?_
           exact ⟨_, rfl, ⟨rfl, hS, hln4143⟩⟩
       ·rintro a w v hA (⟨rfl, hS, hln2559⟩)
        refine putK rfl hA hS (on ?_)
        cases hr2558
        intro a w hS hA
        refine ret0 hA rfl ?_
        exact ⟨_, rfl, ⟨rfl, hS, hln2559⟩⟩
      ·rintro a w v hA (⟨rfl, hS, hln1892⟩)
       refine putK rfl hA hS (on (sq (sq (rg (m1 rfl (TG.len 4 rfl fun _ => (lnL U86 rfl rfl (m1 rfl (on (TG.nilRow 7 63 5 ?_))))))))))
       have hR4840 : Rows (RRequest) 5 H [] ([] : List Request) := tv
       refine TG.nilRow 8 3 1 (TG.as 8 (z := Own.list none 0 3 1 (encI .i64) ([] : List Int)) rfl rfl (TG.as 7 (z := Own.rows none 0 63 5 [] ([] : List Request)) rfl rfl ?_))
       obtain ⟨e5016, hl5017, hr5018⟩ := bd_some hr1891
       refine jn (fun a w => ∃ (ad5019 : Option Addr) (cap5020 : Nat) (ad5021 : Option Addr) (cap5022 : Nat) (css5023 : List (List Value)) (K5024 : Hp), St M W H [K5024, K1160, K1134, K1123, K1118, K1115, K1112, K20, K17, K14, H] [(8, Own.list ad5019 cap5020 3 1 (encI .i64) e5016.1), (7, Own.rows ad5021 cap5022 63 5 css5023 e5016.2.1), (4, Own.list ad1198 cap1199 3 1 (encI .i64) t1889), (2, cel b1161 133 [.slice ad10 r_2.words.length cap11, .int .i64 r_2.out, .int .i64 r_2.within, .map b1132, .slice ad1129 r1120.1.swaps.length cap1130, .slice ad5021 e5016.2.1.length cap5022, .slice ad5019 e5016.1.length cap5020, .slice (some ⟨b1159, 0, none⟩) ((List.replicate requests.length (0 : Int)).length) requests.length]), (1, Own.list (some ⟨b1159, 0, none⟩) requests.length 31 1 (encI .i64) e5016.2.2)] w ∧ Has [] 106 a [(13, .pointer (some (⟨b1161, 0, none⟩)))] ∧ Rows (RRequest) 5 K5024 css5023 e5016.2.1 ∧ e5016.2.2.length = (List.replicate requests.length (0 : Int)).length) ?_ ?_
       ·refine bk ?_
        refine lp hl5017 (fun s5027 a w => ∃ (ad5028 : Option Addr) (cap5029 : Nat) (ad5030 : Option Addr) (cap5031 : Nat) (css5032 : List (List Value)) (K5033 : Hp), St M W H [K5033, K1160, K1134, K1123, K1118, K1115, K1112, K20, K17, K14, H] [(8, Own.list ad5028 cap5029 3 1 (encI .i64) s5027.2.1), (7, Own.rows ad5030 cap5031 63 5 css5032 s5027.2.2.1), (4, Own.list ad1198 cap1199 3 1 (encI .i64) t1889), (2, cel b1161 133 [.slice ad10 r_2.words.length cap11, .int .i64 r_2.out, .int .i64 r_2.within, .map b1132, .slice ad1129 r1120.1.swaps.length cap1130, .slice ad5030 s5027.2.2.1.length cap5031, .slice ad5028 s5027.2.1.length cap5029, .slice (some ⟨b1159, 0, none⟩) ((List.replicate requests.length (0 : Int)).length) requests.length]), (1, Own.list (some ⟨b1159, 0, none⟩) requests.length 31 1 (encI .i64) s5027.2.2.2)] w ∧ Has [] 106 a [(7, .pointer (some q1117)), (13, .pointer (some (⟨b1161, 0, none⟩))), (55, .slice ad1198 e1195.length cap1199), (56, .int .i64 (e1195.length : Int)), (57, .int .i64 (s5027.1 : Int))] ∧ Rows (RRequest) 5 K5033 css5032 s5027.2.2.1 ∧ s5027.2.2.2.length = (List.replicate requests.length (0 : Int)).length) ?_ ?_
        ·intro a w hS hA
         exact ⟨none, 0, none, 0, [], H, hS.selH [9, 0, 1, 2, 3, 4, 5, 6, 7, 8, 9] rfl, hA.cut ⟨rfl, rfl, rfl, rfl, rfl, tv⟩, hR4840, rfl⟩
        ·rintro j s5027 y5038 hr5036 hz5037 a w ⟨ad5028, cap5029, ad5030, cap5031, css5032, K5033, hS, hA, hR5034, hln5035⟩
         refine TG.ap ?_ hS hA
         unfold m42_9 at hr5036
         refine sq (rg (ltI rfl rfl rfl (on (sq ?_))))
         refine ci rfl (fun hc5042 => ?_) (fun hc5042 => ?_)
         ·have hr5043 := if_p hc5042 hr5036
          refine sk (sq (bk (sq (rg ?_))))
          obtain ⟨x5116, hx5117, hr5118⟩ := bd_some hr5043
          refine TG.addr 4 rfl (lt_of0 hx5117) fun b5119 h => ?_; subst h
          refine iaP U86 Z3 rfl rfl rfl rfl (Nat.lt_of_lt_of_eq (lt_of hx5117) hln1892) (ld G3 rfl rfl (sE 4 rfl (fun _ => rfl) hx5117) rfl (a1 rfl (on (sq ?_))))
          obtain ⟨hk5120, hr5121⟩ := chk_some hr5118
          obtain ⟨x5122, hx5123, hr5124⟩ := bd_some hr5121
          obtain ⟨p5125, rfl⟩ := h_requests.adr hx5123
          obtain ⟨cs5126, hcs5127, hq5128, hr5129⟩ := h_requests.at hx5123
          have hr5130 := hr5129
          obtain ⟨ad5131, cap5132, rfl, hl5133⟩ := hr5129
          have := hl5133.len
          obtain ⟨r5134, hx5135, hr5136⟩ := bd_some hr5124
          refine drG 11 mixed (by kernel_rfl) rfl (dt rfl (m1 rfl fin1) (dt rfl (nl rfl rfl fin1) (dt rfl (fb 7 U133 rfl rfl rfl rfl Z59 fin1) (dt rfl (ld G59 rfl rfl ((sO 2 rfl).drop 7) rfl fin1) (dt rfl (m1 rfl fin1) (dt rfl (m1 rfl fin1) (dt rfl (ld G64 rfl rfl (sS 5 rfl hK1119) rfl fin1) (dt rfl (m1 rfl fin1) (dt rfl (iaP U64 Z63 rfl rfl rfl (by omega) (lt_of hx5123) fin1) (dt rfl (ldA G63 Z63 rfl rfl (sS 11 rfl hq5128) rfl fin1) (dt rfl (clL C90 rfl rfl rfl rfl (fun w hS => w90 (Hp.le.refl (hp w)) (hg.mono (hS.hp 11 rfl)) (⟨r_2, r1120.1, s5027.2.2.1, s5027.2.1, s5027.2.2.2⟩ : decided) (cell_at (hS.get (t := 2) rfl)) ⟨ad10, cap11, (.map b1132), ad1129, cap1130, ad5030, cap5031, ad5028, cap5029, (some ⟨b1159, 0, none⟩), requests.length, (by simp only [hln5035]), (hl12.mono (Flat.mono _) (hS.hp 11 rfl)), (hm1128.mono (hS.hp 4 rfl)), (hl1131.mono (Flat.mono _) (hS.hp 4 rfl)), (rows_sl (H := hp w) (hS.get (t := 7) rfl) (hR5034.mono (RRequest.mono) (hS.hp 1 rfl)) (fun _ _ _ ho => ho)), (list_sl (H := hp w) (enc := encI .i64) (size := 1) (ad := ad5028) (cap := cap5029) (el := 3) (l := s5027.2.1) (fun _ => rfl) (hS.get (t := 8) rfl) (fun _ _ _ ho => ho)), (list_sl (H := hp w) (enc := encI .i64) (size := 1) (ad := (some ⟨b1159, 0, none⟩)) (cap := requests.length) (el := 31) (l := s5027.2.2.2) (fun _ => rfl) (hS.get (t := 1) rfl) (fun _ _ _ ho => ho))⟩ x5122 (RRequest.mono _ _ _ _ (hS.hp 11 rfl) hr5130) hx5135) fin1) ?_)))))))))))
          refine DF.nil fun K5137 hF => ?_
          obtain ⟨x5138, hx5139, hr5140⟩ := bd_some hr5136
          refine iaP U59 Z31 rfl rfl rfl (by omega) (Nat.lt_of_lt_of_eq (lt_of hx5139) hln5035) ?_
          have hln5141 : (s5027.2.2.2.set x5116.toNat r5134).length = (List.replicate requests.length (0 : Int)).length := (lenS _ _ _).trans hln5035
          refine stE 1 r5134 (q := ⟨b1159, 0, none⟩) (j := x5116.toNat) (size := 1) (cs := [.int .i64 r5134]) (off := 0) Z31 rfl rfl rfl (fun _ => rfl) hx5139 rfl rfl rfl rfl rfl (on (sq (rg (m1 rfl (nl rfl rfl (fb 7 U133 rfl rfl rfl rfl Z59 (ld G59 rfl rfl ((sO 2 rfl).drop 7) rfl (m1 rfl ?_))))))))
          obtain ⟨x5142, hx5143, hr5144⟩ := bd_some hr5140
          refine iaP U59 Z31 rfl rfl rfl (by omega) (Nat.lt_of_lt_of_eq (lt_of hx5143) hln5141) (ld G31 rfl rfl (sE 1 rfl (fun _ => rfl) hx5143) rfl (eqI rfl rfl rfl (on ?_)))
          obtain ⟨t5180, hx5181, hr5182⟩ := bd_some hr5144
          refine jn (fun a w => ∃ (ad5183 : Option Addr) (cap5184 : Nat) (ad5185 : Option Addr) (cap5186 : Nat) (css5187 : List (List Value)) (K5188 : Hp), St M W H [K5188, K5137, K5033, K1160, K1134, K1123, K1118, K1115, K1112, K20, K17, K14, H] [(8, Own.list ad5183 cap5184 3 1 (encI .i64) t5180.1), (7, Own.rows ad5185 cap5186 63 5 css5187 t5180.2), (4, Own.list (some ⟨b5119, 0, none⟩) cap1199 3 1 (encI .i64) t1889), (2, cel b1161 133 [.slice ad10 r_2.words.length cap11, .int .i64 r_2.out, .int .i64 r_2.within, .map b1132, .slice ad1129 r1120.1.swaps.length cap1130, .slice ad5185 t5180.2.length cap5186, .slice ad5183 t5180.1.length cap5184, .slice (some ⟨b1159, 0, none⟩) ((List.replicate requests.length (0 : Int)).length) requests.length]), (1, Own.list (some ⟨b1159, 0, none⟩) requests.length 31 1 (encI .i64) (s5027.2.2.2.set x5116.toNat r5134))] w ∧ Has [] 106 a [(7, .pointer (some q1117)), (13, .pointer (some (⟨b1161, 0, none⟩))), (55, .slice (some ⟨b5119, 0, none⟩) e1195.length cap1199), (56, .int .i64 (e1195.length : Int)), (57, .int .i64 (s5027.1 : Int))] ∧ Rows (RRequest) 5 K5188 css5187 t5180.2) ?_ ?_
          ·refine ci rfl (fun hc5190 => ?_) (fun hc5190 => ?_)
           ·have hr5191 := if_p hc5190 hx5181
            obtain ⟨hk5201, hr5202⟩ := chk_some hr5191
            have := lenA s5027.2.2.1 ([x5122] : List Request)
            obtain ⟨hk5219, hr5220⟩ := chk_some hr5202
            have := lenA s5027.2.1 ([x5116] : List Int)
            refine drG3 19 [11, 18] [(1, 82, .pointer (some (⟨b1161, 0, none⟩)))] mixed (fun _ _ _ _ _ h => h) (by kernel_rfl) (by kernel_rfl) (by kernel_rfl) rfl (by kernel_rfl) (.cons rfl rfl rfl (fun _ => rfl) (by kernel_rfl) (by kernel_rfl) (fun _ _ => rfl) (mvY rfl) (.nil)) (DC.detA rfl rfl rfl (fun τ a w K hS hA hF => TG.pa hS hA (m1 rfl fin1)) (DC.pre (.head _) rfl (dc rfl (by kernel_rfl) tv rfl rfl (m1 rfl fin1) (dc rfl (by kernel_rfl) tv rfl rfl (nl rfl rfl fin1) (dc rfl (by kernel_rfl) tv rfl rfl (fb 5 U133 rfl rfl rfl rfl Z64 fin1) (dc rfl (by kernel_rfl) tv rfl rfl (ld G64 rfl rfl (((sO 2 rfl).drop 5).take 1) rfl fin1) (dc rfl (by kernel_rfl) tv rfl rfl (ld G64 rfl rfl (sS 6 rfl hK1119) rfl fin1) (dc rfl (by kernel_rfl) tv rfl rfl (m1 rfl fin1) (dc rfl (by kernel_rfl) tv rfl rfl (iaP U64 Z63 rfl rfl rfl (by omega) (lt_of hx5123) fin1) (dc rfl (by kernel_rfl) tv rfl rfl (ldA G63 Z63 rfl rfl (sS 12 rfl hq5128) rfl fin1) ?_))))))))))
            refine DC.und (α := Option Addr × Nat) (none, 0) (fun q => .slice q.1 1 q.2) (fun (q : Option Addr × Nat) K => Sl (RRequest) 5 K q.1 q.2 ([x5122] : List Request)) (fun τ => τ = [(8, Own.list ad5028 cap5029 3 1 (encI .i64) s5027.2.1), (7, Own.rows ad5030 cap5031 63 5 css5032 s5027.2.2.1), (4, Own.list (some ⟨b5119, 0, none⟩) cap1199 3 1 (encI .i64) t1889), (2, cel b1161 133 [.slice ad10 r_2.words.length cap11, .int .i64 r_2.out, .int .i64 r_2.within, .map b1132, .slice ad1129 r1120.1.swaps.length cap1130, .slice ad5030 s5027.2.2.1.length cap5031, .slice ad5028 s5027.2.1.length cap5029, .slice (some ⟨b1159, 0, none⟩) ((List.replicate requests.length (0 : Int)).length) requests.length]), (1, Own.list (some ⟨b1159, 0, none⟩) requests.length 31 1 (encI .i64) (s5027.2.2.2.set x5116.toNat r5134))]) rfl rfl (by kernel_rfl) tv (fun _ _ _ h x => x.mono (RRequest.mono) h) (by kernel_rfl) rfl rfl (fun τ hτ a w K hS hA hF => by subst hτ <;> exact TG.pa hS hA (bS (cs := [.int .i64 x5122.by_, .int .i64 x5122.minute, .int .i64 x5122.from_, .int .i64 x5122.cut, .slice ad5131 x5122.put_.length cap5132]) T4.E64 rfl rfl rfl rfl fun q5192 K5193 hq5194 hK5195 => by
              refine TG.pack (fun K => Sl (RRequest) 5 K (some q5192) 1 ([x5122] : List Request)) (fun H le => Sl.litR (css := [[.int .i64 x5122.by_, .int .i64 x5122.minute, .int .i64 x5122.from_, .int .i64 x5122.cut, .slice ad5131 x5122.put_.length cap5132]]) (l := ([x5122] : List Request)) ⟨⟨rfl, rfl, (RRequest.mono _ _ _ _ (le.at 13 rfl) hr5130)⟩, tv⟩ hq5194 (hK5195.mono (le.at 0 rfl)) rfl) fun K5197 hl5196 => ?_
              have := hl5196.len
              refine sk1 ?_
              exact finU (f := fun q => .slice q.1 1 q.2) (G := (fun (q : Option Addr × Nat) K => Sl (RRequest) 5 K q.1 q.2 ([x5122] : List Request))) (_, _) (fun _ _ _ h x => x.mono (RRequest.mono) h) hl5196)) ?_
            rintro ⟨ad5199, cap5200⟩
            refine DC.turn (α := Option Addr × Nat × List (List Value)) (none, 0, []) (fun q => .slice q.1 ((s5027.2.2.1 ++ ([x5122] : List Request)).length) q.2.1) (fun (q : Option Addr × Nat × List (List Value)) K => Rows (RRequest) 5 K q.2.2 (s5027.2.2.1 ++ ([x5122] : List Request))) (fun q => [(8, Own.list ad5028 cap5029 3 1 (encI .i64) s5027.2.1), (7, Own.rows q.1 q.2.1 63 5 q.2.2 (s5027.2.2.1 ++ ([x5122] : List Request))), (4, Own.list (some ⟨b5119, 0, none⟩) cap1199 3 1 (encI .i64) t1889), (2, cel b1161 133 [.slice ad10 r_2.words.length cap11, .int .i64 r_2.out, .int .i64 r_2.within, .map b1132, .slice ad1129 r1120.1.swaps.length cap1130, .slice ad5030 s5027.2.2.1.length cap5031, .slice ad5028 s5027.2.1.length cap5029, .slice (some ⟨b1159, 0, none⟩) ((List.replicate requests.length (0 : Int)).length) requests.length]), (1, Own.list (some ⟨b1159, 0, none⟩) requests.length 31 1 (encI .i64) (s5027.2.2.2.set x5116.toNat r5134))]) rfl (fun _ _ _ h x => x.mono (RRequest.mono) h) (by kernel_rfl) rfl rfl (fun a w K hS hA hF => TG.pa hS hA (TG.pack (fun K => Sl (RRequest) 5 K ad5199 cap5200 ([x5122] : List Request) ∧ Rows (RRequest) 5 K css5032 s5027.2.2.1) (fun H le => ⟨(hF.1 rfl).mono (RRequest.mono) (le.at 0 rfl), hR5034.mono (RRequest.mono) (le.at 2 rfl)⟩) fun K5205 ⟨hm5206, hR5207⟩ => apR 7 (l := s5027.2.2.1) (m := ([x5122] : List Request)) T4.E64 rfl rfl rfl rfl rfl rfl hm5206 hR5207 RRequest.one rfl hk5201 fun ad5203 cap5204 css5209 hR5208 => finV (f := fun (q : Option Addr × Nat × List (List Value)) => .slice q.1 ((s5027.2.2.1 ++ ([x5122] : List Request)).length) q.2.1) (G := (fun (q : Option Addr × Nat × List (List Value)) K => Rows (RRequest) 5 K q.2.2 (s5027.2.2.1 ++ ([x5122] : List Request)))) (σ1 := fun q => [(8, Own.list ad5028 cap5029 3 1 (encI .i64) s5027.2.1), (7, Own.rows q.1 q.2.1 63 5 q.2.2 (s5027.2.2.1 ++ ([x5122] : List Request))), (4, Own.list (some ⟨b5119, 0, none⟩) cap1199 3 1 (encI .i64) t1889), (2, cel b1161 133 [.slice ad10 r_2.words.length cap11, .int .i64 r_2.out, .int .i64 r_2.within, .map b1132, .slice ad1129 r1120.1.swaps.length cap1130, .slice ad5030 s5027.2.2.1.length cap5031, .slice ad5028 s5027.2.1.length cap5029, .slice (some ⟨b1159, 0, none⟩) ((List.replicate requests.length (0 : Int)).length) requests.length]), (1, Own.list (some ⟨b1159, 0, none⟩) requests.length 31 1 (encI .i64) (s5027.2.2.2.set x5116.toNat r5134))]) (ad5203, cap5204, css5209) (fun _ _ _ h x => x.mono (RRequest.mono) h) hR5208)) ?_
            rintro ⟨ad5203, cap5204, css5209⟩
            refine DC.det (fun τ => τ = [(8, Own.list ad5028 cap5029 3 1 (encI .i64) s5027.2.1), (7, Own.rows ad5203 cap5204 63 5 css5209 (s5027.2.2.1 ++ ([x5122] : List Request))), (4, Own.list (some ⟨b5119, 0, none⟩) cap1199 3 1 (encI .i64) t1889), (2, cel b1161 133 [.slice ad10 r_2.words.length cap11, .int .i64 r_2.out, .int .i64 r_2.within, .map b1132, .slice ad1129 r1120.1.swaps.length cap1130, .slice ad5030 s5027.2.2.1.length cap5031, .slice ad5028 s5027.2.1.length cap5029, .slice (some ⟨b1159, 0, none⟩) ((List.replicate requests.length (0 : Int)).length) requests.length]), (1, Own.list (some ⟨b1159, 0, none⟩) requests.length 31 1 (encI .i64) (s5027.2.2.2.set x5116.toNat r5134))] ∨ τ = [(8, Own.list ad5028 cap5029 3 1 (encI .i64) s5027.2.1), (7, Own.rows ad5030 cap5031 63 5 css5032 s5027.2.2.1), (4, Own.list (some ⟨b5119, 0, none⟩) cap1199 3 1 (encI .i64) t1889), (2, cel b1161 133 [.slice ad10 r_2.words.length cap11, .int .i64 r_2.out, .int .i64 r_2.within, .map b1132, .slice ad1129 r1120.1.swaps.length cap1130, .slice ad5030 s5027.2.2.1.length cap5031, .slice ad5028 s5027.2.1.length cap5029, .slice (some ⟨b1159, 0, none⟩) ((List.replicate requests.length (0 : Int)).length) requests.length]), (1, Own.list (some ⟨b1159, 0, none⟩) requests.length 31 1 (encI .i64) (s5027.2.2.2.set x5116.toNat r5134))]) rfl (.inl rfl) (by kernel_rfl) ⟨.inl (.inr (rfl)), tv⟩ rfl rfl (fun τ hτ a w K hS hA hF => by rcases hτ with rfl | rfl <;> exact TG.pa hS hA (m1 rfl fin1)) (DC.det (fun τ => τ = [(8, Own.list ad5028 cap5029 3 1 (encI .i64) s5027.2.1), (7, Own.rows ad5203 cap5204 63 5 css5209 (s5027.2.2.1 ++ ([x5122] : List Request))), (4, Own.list (some ⟨b5119, 0, none⟩) cap1199 3 1 (encI .i64) t1889), (2, cel b1161 133 [.slice ad10 r_2.words.length cap11, .int .i64 r_2.out, .int .i64 r_2.within, .map b1132, .slice ad1129 r1120.1.swaps.length cap1130, .slice ad5030 s5027.2.2.1.length cap5031, .slice ad5028 s5027.2.1.length cap5029, .slice (some ⟨b1159, 0, none⟩) ((List.replicate requests.length (0 : Int)).length) requests.length]), (1, Own.list (some ⟨b1159, 0, none⟩) requests.length 31 1 (encI .i64) (s5027.2.2.2.set x5116.toNat r5134))] ∨ τ = [(8, Own.list ad5028 cap5029 3 1 (encI .i64) s5027.2.1), (7, Own.rows ad5030 cap5031 63 5 css5032 s5027.2.2.1), (4, Own.list (some ⟨b5119, 0, none⟩) cap1199 3 1 (encI .i64) t1889), (2, cel b1161 133 [.slice ad10 r_2.words.length cap11, .int .i64 r_2.out, .int .i64 r_2.within, .map b1132, .slice ad1129 r1120.1.swaps.length cap1130, .slice ad5030 s5027.2.2.1.length cap5031, .slice ad5028 s5027.2.1.length cap5029, .slice (some ⟨b1159, 0, none⟩) ((List.replicate requests.length (0 : Int)).length) requests.length]), (1, Own.list (some ⟨b1159, 0, none⟩) requests.length 31 1 (encI .i64) (s5027.2.2.2.set x5116.toNat r5134))]) rfl (.inl rfl) (by kernel_rfl) ⟨.inl (.inr (rfl)), tv⟩ rfl rfl (fun τ hτ a w K hS hA hF => by rcases hτ with rfl | rfl <;> exact TG.pa hS hA (nl rfl rfl fin1)) (DC.det (fun τ => τ = [(8, Own.list ad5028 cap5029 3 1 (encI .i64) s5027.2.1), (7, Own.rows ad5203 cap5204 63 5 css5209 (s5027.2.2.1 ++ ([x5122] : List Request))), (4, Own.list (some ⟨b5119, 0, none⟩) cap1199 3 1 (encI .i64) t1889), (2, cel b1161 133 [.slice ad10 r_2.words.length cap11, .int .i64 r_2.out, .int .i64 r_2.within, .map b1132, .slice ad1129 r1120.1.swaps.length cap1130, .slice ad5030 s5027.2.2.1.length cap5031, .slice ad5028 s5027.2.1.length cap5029, .slice (some ⟨b1159, 0, none⟩) ((List.replicate requests.length (0 : Int)).length) requests.length]), (1, Own.list (some ⟨b1159, 0, none⟩) requests.length 31 1 (encI .i64) (s5027.2.2.2.set x5116.toNat r5134))] ∨ τ = [(8, Own.list ad5028 cap5029 3 1 (encI .i64) s5027.2.1), (7, Own.rows ad5030 cap5031 63 5 css5032 s5027.2.2.1), (4, Own.list (some ⟨b5119, 0, none⟩) cap1199 3 1 (encI .i64) t1889), (2, cel b1161 133 [.slice ad10 r_2.words.length cap11, .int .i64 r_2.out, .int .i64 r_2.within, .map b1132, .slice ad1129 r1120.1.swaps.length cap1130, .slice ad5030 s5027.2.2.1.length cap5031, .slice ad5028 s5027.2.1.length cap5029, .slice (some ⟨b1159, 0, none⟩) ((List.replicate requests.length (0 : Int)).length) requests.length]), (1, Own.list (some ⟨b1159, 0, none⟩) requests.length 31 1 (encI .i64) (s5027.2.2.2.set x5116.toNat r5134))]) rfl (.inl rfl) (by kernel_rfl) ⟨.inl (.inr (rfl)), tv⟩ rfl rfl (fun τ hτ a w K hS hA hF => by rcases hτ with rfl | rfl <;> exact TG.pa hS hA (fb 6 U133 rfl rfl rfl rfl Z86 fin1)) (DC.det (fun τ => τ = [(8, Own.list ad5028 cap5029 3 1 (encI .i64) s5027.2.1), (7, Own.rows ad5203 cap5204 63 5 css5209 (s5027.2.2.1 ++ ([x5122] : List Request))), (4, Own.list (some ⟨b5119, 0, none⟩) cap1199 3 1 (encI .i64) t1889), (2, cel b1161 133 [.slice ad10 r_2.words.length cap11, .int .i64 r_2.out, .int .i64 r_2.within, .map b1132, .slice ad1129 r1120.1.swaps.length cap1130, .slice ad5030 s5027.2.2.1.length cap5031, .slice ad5028 s5027.2.1.length cap5029, .slice (some ⟨b1159, 0, none⟩) ((List.replicate requests.length (0 : Int)).length) requests.length]), (1, Own.list (some ⟨b1159, 0, none⟩) requests.length 31 1 (encI .i64) (s5027.2.2.2.set x5116.toNat r5134))] ∨ τ = [(8, Own.list ad5028 cap5029 3 1 (encI .i64) s5027.2.1), (7, Own.rows ad5030 cap5031 63 5 css5032 s5027.2.2.1), (4, Own.list (some ⟨b5119, 0, none⟩) cap1199 3 1 (encI .i64) t1889), (2, cel b1161 133 [.slice ad10 r_2.words.length cap11, .int .i64 r_2.out, .int .i64 r_2.within, .map b1132, .slice ad1129 r1120.1.swaps.length cap1130, .slice ad5030 s5027.2.2.1.length cap5031, .slice ad5028 s5027.2.1.length cap5029, .slice (some ⟨b1159, 0, none⟩) ((List.replicate requests.length (0 : Int)).length) requests.length]), (1, Own.list (some ⟨b1159, 0, none⟩) requests.length 31 1 (encI .i64) (s5027.2.2.2.set x5116.toNat r5134))]) rfl (.inl rfl) (by kernel_rfl) ⟨.inl (.inr (rfl)), tv⟩ rfl rfl (fun τ hτ a w K hS hA hF => by rcases hτ with rfl | rfl <;> exact TG.pa hS hA (ld G86 rfl rfl (((sO 2 rfl).drop 6).take 1) rfl fin1)) (DC.det (fun τ => τ = [(8, Own.list ad5028 cap5029 3 1 (encI .i64) s5027.2.1), (7, Own.rows ad5203 cap5204 63 5 css5209 (s5027.2.2.1 ++ ([x5122] : List Request))), (4, Own.list (some ⟨b5119, 0, none⟩) cap1199 3 1 (encI .i64) t1889), (2, cel b1161 133 [.slice ad10 r_2.words.length cap11, .int .i64 r_2.out, .int .i64 r_2.within, .map b1132, .slice ad1129 r1120.1.swaps.length cap1130, .slice ad5030 s5027.2.2.1.length cap5031, .slice ad5028 s5027.2.1.length cap5029, .slice (some ⟨b1159, 0, none⟩) ((List.replicate requests.length (0 : Int)).length) requests.length]), (1, Own.list (some ⟨b1159, 0, none⟩) requests.length 31 1 (encI .i64) (s5027.2.2.2.set x5116.toNat r5134))] ∨ τ = [(8, Own.list ad5028 cap5029 3 1 (encI .i64) s5027.2.1), (7, Own.rows ad5030 cap5031 63 5 css5032 s5027.2.2.1), (4, Own.list (some ⟨b5119, 0, none⟩) cap1199 3 1 (encI .i64) t1889), (2, cel b1161 133 [.slice ad10 r_2.words.length cap11, .int .i64 r_2.out, .int .i64 r_2.within, .map b1132, .slice ad1129 r1120.1.swaps.length cap1130, .slice ad5030 s5027.2.2.1.length cap5031, .slice ad5028 s5027.2.1.length cap5029, .slice (some ⟨b1159, 0, none⟩) ((List.replicate requests.length (0 : Int)).length) requests.length]), (1, Own.list (some ⟨b1159, 0, none⟩) requests.length 31 1 (encI .i64) (s5027.2.2.2.set x5116.toNat r5134))]) rfl (.inl rfl) (by kernel_rfl) ⟨.inl (.inr (rfl)), tv⟩ rfl rfl (fun τ hτ a w K hS hA hF => by rcases hτ with rfl | rfl <;> exact TG.pa hS hA (m1 rfl fin1)) ?_))))
            refine DC.und (α := Option Addr × Nat) (none, 0) (fun q => .slice q.1 1 q.2) (fun (q : Option Addr × Nat) K => Sl (Flat (encI .i64)) 1 K q.1 q.2 ([x5116] : List Int)) (fun τ => τ = [(8, Own.list ad5028 cap5029 3 1 (encI .i64) s5027.2.1), (7, Own.rows ad5203 cap5204 63 5 css5209 (s5027.2.2.1 ++ ([x5122] : List Request))), (4, Own.list (some ⟨b5119, 0, none⟩) cap1199 3 1 (encI .i64) t1889), (2, cel b1161 133 [.slice ad10 r_2.words.length cap11, .int .i64 r_2.out, .int .i64 r_2.within, .map b1132, .slice ad1129 r1120.1.swaps.length cap1130, .slice ad5030 s5027.2.2.1.length cap5031, .slice ad5028 s5027.2.1.length cap5029, .slice (some ⟨b1159, 0, none⟩) ((List.replicate requests.length (0 : Int)).length) requests.length]), (1, Own.list (some ⟨b1159, 0, none⟩) requests.length 31 1 (encI .i64) (s5027.2.2.2.set x5116.toNat r5134))] ∨ τ = [(8, Own.list ad5028 cap5029 3 1 (encI .i64) s5027.2.1), (7, Own.rows ad5030 cap5031 63 5 css5032 s5027.2.2.1), (4, Own.list (some ⟨b5119, 0, none⟩) cap1199 3 1 (encI .i64) t1889), (2, cel b1161 133 [.slice ad10 r_2.words.length cap11, .int .i64 r_2.out, .int .i64 r_2.within, .map b1132, .slice ad1129 r1120.1.swaps.length cap1130, .slice ad5030 s5027.2.2.1.length cap5031, .slice ad5028 s5027.2.1.length cap5029, .slice (some ⟨b1159, 0, none⟩) ((List.replicate requests.length (0 : Int)).length) requests.length]), (1, Own.list (some ⟨b1159, 0, none⟩) requests.length 31 1 (encI .i64) (s5027.2.2.2.set x5116.toNat r5134))]) rfl (.inl rfl) (by kernel_rfl) ⟨.inl (.inr (rfl)), tv⟩ (fun _ _ _ h x => x.mono (Flat.mono _) h) (by kernel_rfl) rfl rfl (fun τ hτ a w K hS hA hF => by rcases hτ with rfl | rfl <;> exact TG.pa hS hA (bS (cs := [.int .i64 x5116]) T4.E86 rfl rfl rfl rfl fun q5211 K5212 hq5213 hK5214 => by
              have hl5215 : Sl (Flat (encI .i64)) 1 K5212 (some q5211) 1 ([x5116] : List Int) := Sl.litR (css := [[.int .i64 x5116]]) (l := ([x5116] : List Int)) ⟨⟨rfl, rfl, rfl⟩, tv⟩ hq5213 hK5214 rfl
              have := hl5215.len
              exact finU (f := fun q => .slice q.1 1 q.2) (G := (fun (q : Option Addr × Nat) K => Sl (Flat (encI .i64)) 1 K q.1 q.2 ([x5116] : List Int))) (_, _) (fun _ _ _ h x => x.mono (Flat.mono _) h) hl5215)) ?_
            rintro ⟨ad5217, cap5218⟩
            refine DC.turn (α := Option Addr × Nat) (none, 0) (fun q => .slice q.1 ((s5027.2.1 ++ ([x5116] : List Int)).length) q.2) (fun _ _ => True) (fun q => [(8, Own.list q.1 q.2 3 1 (encI .i64) (s5027.2.1 ++ ([x5116] : List Int))), (7, Own.rows ad5203 cap5204 63 5 css5209 (s5027.2.2.1 ++ ([x5122] : List Request))), (4, Own.list (some ⟨b5119, 0, none⟩) cap1199 3 1 (encI .i64) t1889), (2, cel b1161 133 [.slice ad10 r_2.words.length cap11, .int .i64 r_2.out, .int .i64 r_2.within, .map b1132, .slice ad1129 r1120.1.swaps.length cap1130, .slice ad5030 s5027.2.2.1.length cap5031, .slice ad5028 s5027.2.1.length cap5029, .slice (some ⟨b1159, 0, none⟩) ((List.replicate requests.length (0 : Int)).length) requests.length]), (1, Own.list (some ⟨b1159, 0, none⟩) requests.length 31 1 (encI .i64) (s5027.2.2.2.set x5116.toNat r5134))]) rfl (fun _ _ _ _ h => h) (by kernel_rfl) rfl rfl (fun a w K hS hA hF => TG.pa hS hA (apS 8 (enc := encI .i64) (l := s5027.2.1) (m := ([x5116] : List Int)) T4.E86 rfl rfl rfl rfl rfl rfl (hF.1 rfl) 0 rfl (fun _ => rfl) (fun _ => rfl) rfl hk5219 fun ad5221 cap5222 => finT (f := fun q => .slice q.1 ((s5027.2.1 ++ ([x5116] : List Int)).length) q.2) (G := fun _ _ => True) (σ1 := fun q => [(8, Own.list q.1 q.2 3 1 (encI .i64) (s5027.2.1 ++ ([x5116] : List Int))), (7, Own.rows ad5203 cap5204 63 5 css5209 (s5027.2.2.1 ++ ([x5122] : List Request))), (4, Own.list (some ⟨b5119, 0, none⟩) cap1199 3 1 (encI .i64) t1889), (2, cel b1161 133 [.slice ad10 r_2.words.length cap11, .int .i64 r_2.out, .int .i64 r_2.within, .map b1132, .slice ad1129 r1120.1.swaps.length cap1130, .slice ad5030 s5027.2.2.1.length cap5031, .slice ad5028 s5027.2.1.length cap5029, .slice (some ⟨b1159, 0, none⟩) ((List.replicate requests.length (0 : Int)).length) requests.length]), (1, Own.list (some ⟨b1159, 0, none⟩) requests.length 31 1 (encI .i64) (s5027.2.2.2.set x5116.toNat r5134))]) (_, _) tv)) ?_
            rintro ⟨ad5221, cap5222⟩
            refine DC.nil fun K5223 hF => ?_
            obtain ⟨_, hu5216, hu5210, hu5198, _⟩ := hF
            have := hu5198.len
            have := hu5216.len
            refine nl rfl rfl (fb 5 U133 rfl rfl rfl rfl Z64 (sto 2 (cs := [.slice ad5203 ((s5027.2.2.1 ++ ([x5122] : List Request)).length) cap5204]) Z64 rfl rfl rfl rfl rfl rfl rfl (nl rfl rfl (fb 6 U133 rfl rfl rfl rfl Z86 (sto 2 (cs := [.slice ad5221 ((s5027.2.1 ++ ([x5116] : List Int)).length) cap5222]) Z86 rfl rfl rfl rfl rfl rfl rfl (on ?_))))))
            cases hr5220
            intro a w hS hA
            exact ⟨ad5221, cap5222, ad5203, cap5204, css5209, K5223, hS, hA.cut ⟨rfl, rfl, rfl, rfl, rfl, tv⟩, hu5210⟩
           ·have hr5224 := if_n hc5190 hx5181
            refine sk ?_
            cases hr5224
            intro a w hS hA
            exact ⟨ad5028, cap5029, ad5030, cap5031, css5032, K5033, hS.selH [1, 0, 1, 2, 3, 4, 5, 6, 7, 8, 9, 10, 11] rfl, hA.cut ⟨rfl, rfl, rfl, rfl, rfl, tv⟩, hR5034⟩
          ·rintro a w ⟨ad5183, cap5184, ad5185, cap5186, css5187, K5188, hS, hA, hR5189⟩
           refine TG.ap ?_ hS hA
           refine rg (adI rfl rfl rfl (by omega) (m1 rfl (on ?_)))
           cases hr5182
           intro a w hS hA
           exact ⟨_, hz5037, ad5183, cap5184, ad5185, cap5186, css5187, K5188, hS.selH [0, 3, 4, 5, 6, 7, 8, 9, 10, 11, 12] rfl, hA.cut ⟨rfl, rfl, rfl, rfl, rfl, tv⟩, hR5189, hln5141⟩
         ·have hr5225 := if_n hc5042 hr5036
          refine xt rfl ?_
          cases hr5225
          obtain rfl := Fin.out hz5037
          intro a w hS hA
          exact ⟨ad5028, cap5029, ad5030, cap5031, css5032, K5033, hS, hA.cut ⟨rfl, tv⟩, hR5034, hln5035⟩
       ·rintro a w ⟨ad5019, cap5020, ad5021, cap5022, css5023, K5024, hS, hA, hR5025, hln5026⟩
        refine TG.ap ?_ hS hA
        refine sq (rg (m1 rfl (a1 rfl (a1 rfl (on (rt_ (TG.del 4 (TG.as 2 (z := cel b1161 133 [.slice ad10 r_2.words.length cap11, .int .i64 r_2.out, .int .i64 r_2.within, .map b1132, .slice ad1129 r1120.1.swaps.length cap1130, .slice ad5021 e5016.2.1.length cap5022, .slice ad5019 e5016.1.length cap5020, .slice (some ⟨b1159, 0, none⟩) e5016.2.2.length requests.length]) rfl (by rw [hln5026]) ?_))))))))
        cases hr5018
        intro a w hS hA
        refine ret2 hA rfl rfl rfl ?_
        exact ⟨_, rfl, .inr (⟨_, rfl, b1161, ad5019, cap5020, ad5021, cap5022, css5023, K5024, ad10, cap11, H, .map b1132, K1123, ad1129, cap1130, K1123, (some ⟨b1159, 0, none⟩), requests.length, rfl, hS.selH [0, 10, 3, 3, 7, 8, 9, 10] rfl, hR5025, hl12, hm1128, hl1131⟩)⟩
 ·rintro a w v hA (⟨t1088, rfl, rfl, hS⟩ | ⟨t1089, rfl, b1090, ad1091, cap1092, ad1093, cap1094, css1095, K1096, ad1098, cap1099, K1100, mp1102, K1103, ad1105, cap1106, K1107, ad1109, cap1110, rfl, hS, hR1097, hl1101, hm1104, hl1108⟩)
  ·refine putK rfl hA hS (m1 rfl (ex rfl rfl rfl (ex rfl rfl rfl (va (cs := [.pointer none]) Tryz.zeroValue129 Z129 rfl rfl rfl rfl rfl rfl rfl rfl fun q5226 K5227 hK5228 => (a1 rfl (on (sq (sq (rg (m1 rfl (neI rfl rfl rfl ?_)))))))))))
   refine on ?_
   refine ci rfl (fun hc5232 => ?_) (fun hc5232 => ?_)
   ·have hr5233 := if_p hc5232 hr1087
    refine sq (rg (m1 rfl (a1 rfl (a1 rfl (on (rt_ ?_))))))
    cases hr5233
    intro a w hS hA
    refine ret2 hA rfl rfl rfl ?_
    exact ⟨⟨_, _, rfl, (Sl.nil _ _ _ _ _ (by decide))⟩, hS.ext⟩
   ·have hr5234 := if_n hc5232 hr1087
    refine sk (sq (rg (ld G129 rfl rfl (sS 0 rfl hK5228) rfl ?_)))
    cases hr5234
  ·have := hl1101.len
   have := hl1108.len
   refine putK rfl hA hS (m1 rfl (ex rfl rfl rfl (ex rfl rfl rfl (va (cs := [.pointer (some (⟨b1090, 0, none⟩))]) Tryz.zeroValue129 Z129 rfl rfl rfl rfl rfl rfl rfl rfl fun q5235 K5236 hK5237 => (a1 rfl (on (sq (sq (rg (m1 rfl (neI rfl rfl rfl ?_)))))))))))
   refine on (cF rfl ((rfl : decide ((0 : Int) ≠ (0 : Int)) = false)) (sk (sq (rg (ld G129 rfl rfl (sS 0 rfl hK5237) rfl (nl rfl rfl (fb 6 U133 rfl rfl rfl rfl Z86 (ld G86 rfl rfl (((sO 2 rfl).drop 6).take 1) rfl (fn rfl rfl rfl ?_)))))))))
   obtain ⟨l5238, hx5239, hr5240⟩ := bd_some hr1087
   have hln5241 : l5238.length = t1089.1.length := (sortO_len hx5239)
   refine srt1 8 (enc := encI .i64) (V := Vi .i64) (V' := Vi .i64) (Value.int .i64) (fun _ => rfl) (fun _ => rfl) Tryz.srt64 C64 rfl rfl rfl rfl rfl rfl (fun H le => ⟨65, [], [.pointer (some q19)], rfl, C65, fun w_ K_ args_ v_ hK hw hs => by obtain ⟨u0_, u1_, x0_, x1_, r_, rfl, h0_, h1_, hx, rfl⟩ := hs; cases h0_; cases h1_; exact w65 (H := K_) hw  x0_ x1_ (f0_ := requests) (hK21.mono ((le.at 5 rfl).trans hK)) (h_requests.mono (RRequest.mono) ((le.at 8 rfl).trans hK)) hx⟩) (fun _ _ => rfl) (fun _ _ => rfl) hx5239 (on (sq (rg (al 9 (cs := [.slice none 0 0]) Tryz.zeroValue91 rfl rfl fun b5242 => (on (sq (rg (al 10 (cs := [.int .i64 0]) Tryz.zeroValue3 rfl rfl fun b5243 => (sto 10 (cs := [.int .i64 0]) Z3 rfl rfl rfl rfl rfl rfl rfl (on (sq ?_)))))))))))
   refine rg (fn rfl rfl rfl (a1 rfl (on (sq (sq (rg (ld G129 rfl rfl (sS 0 rfl hK5237) rfl (nl rfl rfl (fb 6 U133 rfl rfl rfl rfl Z86 (ld G86 rfl rfl (((sO 2 rfl).drop 6).take 1) rfl (TG.len 8 rfl fun _ => ?_)))))))))))
   refine lnL U86 rfl rfl (m1 rfl (on (TG.nilRow 13 98 3 ?_)))
   have hR5455 : Rows (RSegment) 3 H [] ([] : List Segment) := tv
   refine TG.as 13 (z := Own.rows none 0 98 3 [] ([] : List Segment)) rfl rfl ?_
   obtain ⟨e5842, hl5843, hr5844⟩ := bd_some hr5240
   refine jn (fun a w => ∃ (ad5845 : Option Addr) (cap5846 : Nat) (css5847 : List (List Value)) (K5848 : Hp), St M W H [K5848, K5236, K1096, K1100, K1103, K1107, K20, K17, K14, H] [(13, Own.rows ad5845 cap5846 98 3 css5847 e5842.2), (10, cel b5243 3 [.int .i64 e5842.1]), (9, cel b5242 91 [.slice ad5845 e5842.2.length cap5846]), (8, Own.list ad1091 cap1092 3 1 (encI .i64) l5238), (7, Own.rows ad1093 cap1094 63 5 css1095 t1089.2.1), (2, cel b1090 133 [.slice ad1098 t1089.2.2.1.length cap1099, .int .i64 r_2.out, .int .i64 r_2.within, mp1102, .slice ad1105 t1089.2.2.2.2.1.length cap1106, .slice ad1093 t1089.2.1.length cap1094, .slice ad1091 t1089.1.length cap1092, .slice ad1109 t1089.2.2.2.2.2.length cap1110]), (1, Own.list ad1109 cap1110 31 1 (encI .i64) t1089.2.2.2.2.2)] w ∧ Has [] 79 a [(6, .pointer (some q16)), (12, .pointer (some (⟨b5242, 0, none⟩))), (14, .func (.func 67) [].toArray [.pointer (some (⟨b5243, 0, none⟩)), .pointer (some (⟨b5242, 0, none⟩)), .pointer (some q5235)].toArray)] ∧ Rows (RSegment) 3 K5848 css5847 e5842.2) ?_ ?_
   ·refine bk ?_
    refine lp hl5843 (fun s5850 a w => ∃ (ad5851 : Option Addr) (cap5852 : Nat) (css5853 : List (List Value)) (K5854 : Hp), St M W H [K5854, K5236, K1096, K1100, K1103, K1107, K20, K17, K14, H] [(13, Own.rows ad5851 cap5852 98 3 css5853 s5850.2.2), (10, cel b5243 3 [.int .i64 s5850.2.1]), (9, cel b5242 91 [.slice ad5851 s5850.2.2.length cap5852]), (8, Own.list ad1091 cap1092 3 1 (encI .i64) l5238), (7, Own.rows ad1093 cap1094 63 5 css1095 t1089.2.1), (2, cel b1090 133 [.slice ad1098 t1089.2.2.1.length cap1099, .int .i64 r_2.out, .int .i64 r_2.within, mp1102, .slice ad1105 t1089.2.2.2.2.1.length cap1106, .slice ad1093 t1089.2.1.length cap1094, .slice ad1091 t1089.1.length cap1092, .slice ad1109 t1089.2.2.2.2.2.length cap1110]), (1, Own.list ad1109 cap1110 31 1 (encI .i64) t1089.2.2.2.2.2)] w ∧ Has [] 79 a [(6, .pointer (some q16)), (7, .pointer (some q19)), (10, .pointer (some q5235)), (12, .pointer (some (⟨b5242, 0, none⟩))), (13, .pointer (some (⟨b5243, 0, none⟩))), (14, .func (.func 67) [].toArray [.pointer (some (⟨b5243, 0, none⟩)), .pointer (some (⟨b5242, 0, none⟩)), .pointer (some q5235)].toArray), (39, .slice ad1091 t1089.1.length cap1092), (40, .int .i64 (t1089.1.length : Int)), (41, .int .i64 (s5850.1 : Int))] ∧ Rows (RSegment) 3 K5854 css5853 s5850.2.2) ?_ ?_
    ·intro a w hS hA
     exact ⟨none, 0, [], H, hS.selH [8, 0, 1, 2, 3, 4, 5, 6, 7, 8] rfl, hA.cut ⟨rfl, rfl, rfl, rfl, rfl, rfl, rfl, rfl, rfl, tv⟩, hR5455⟩
    ·rintro j s5850 y5858 hr5856 hz5857 a w ⟨ad5851, cap5852, css5853, K5854, hS, hA, hR5855⟩
     refine TG.ap ?_ hS hA
     unfold m42_10 at hr5856
     refine sq (rg (ltI rfl rfl rfl (on (sq ?_))))
     refine ci rfl (fun hc5862 => ?_) (fun hc5862 => ?_)
     ·have hr5863 := if_p hc5862 hr5856
      refine sk (sq (bk (sq (rg ?_))))
      obtain ⟨x5982, hx5983, hr5984⟩ := bd_some hr5863
      refine TG.addr 8 rfl (lt_of0 hx5983) fun b5985 h => ?_; subst h
      refine iaP U86 Z3 rfl rfl rfl rfl (Nat.lt_of_lt_of_eq (lt_of hx5983) hln5241) (ld G3 rfl rfl (sE 8 rfl (fun _ => rfl) hx5983) rfl (a1 rfl (on (sq (rg (ld G64 rfl rfl (sS 6 rfl hK21) rfl (m1 rfl ?_)))))))
      obtain ⟨hk5986, hr5987⟩ := chk_some hr5984
      obtain ⟨x5988, hx5989, hr5990⟩ := bd_some hr5987
      obtain ⟨p5991, rfl⟩ := h_requests.adr hx5989
      obtain ⟨cs5992, hcs5993, hq5994, hr5995⟩ := h_requests.at hx5989
      have hr5996 := hr5995
      obtain ⟨ad5997, cap5998, rfl, hl5999⟩ := hr5995
      have := hl5999.len
      refine iaP U64 Z63 rfl rfl rfl (by omega) (lt_of hx5989) (ldA G63 Z63 rfl rfl (sS 9 rfl hq5994) rfl (va (cs := [.int .i64 x5988.by_, .int .i64 x5988.minute, .int .i64 x5988.from_, .int .i64 x5988.cut, .slice ad5997 x5988.put_.length cap5998]) Tryz.zeroValue63 Z63 rfl rfl rfl rfl rfl rfl rfl rfl fun q6000 K6001 hK6002 => (on (sq (rg (m1 rfl (fb 2 U63 rfl rfl rfl rfl Z3 (ld G3 rfl rfl (((sS 0 rfl hK6002).drop 2).take 1) rfl ?_))))))))
      obtain ⟨t6049, hx6050, hr6051⟩ := bd_some hr5990
      refine clI C67 Tryz.func67 rfl Tryz.ntmps67 rfl rfl rfl rfl (fun v w => (∃ (ad6052 : Option Addr) (cap6053 : Nat) (css6054 : List (List Value)) (K6055 : Hp), v = .tuple #[] ∧ St M W H [K6055, K6001, K5854, K5236, K1096, K1100, K1103, K1107, K20, K17, K14, H] [(13, Own.rows ad6052 cap6053 98 3 css6054 t6049), (10, cel b5243 3 [.int .i64 s5850.2.1]), (9, cel b5242 91 [.slice ad6052 t6049.length cap6053]), (8, Own.list (some ⟨b5985, 0, none⟩) cap1092 3 1 (encI .i64) l5238), (7, Own.rows ad1093 cap1094 63 5 css1095 t1089.2.1), (2, cel b1090 133 [.slice ad1098 t1089.2.2.1.length cap1099, .int .i64 r_2.out, .int .i64 r_2.within, mp1102, .slice ad1105 t1089.2.2.2.2.1.length cap1106, .slice ad1093 t1089.2.1.length cap1094, .slice (some ⟨b5985, 0, none⟩) t1089.1.length cap1092, .slice ad1109 t1089.2.2.2.2.2.length cap1110]), (1, Own.list ad1109 cap1110 31 1 (encI .i64) t1089.2.2.2.2.2)] w ∧ Rows (RSegment) 3 K6055 css6054 t6049)) ?_ ?_
      ·refine sq (rg (ld G3 rfl rfl (sO 10 rfl) rfl (m1 rfl (ltI rfl rfl rfl (on ?_)))))
       obtain ⟨t6097, hx6098, hr6099⟩ := bd_some hx6050
       refine jn (fun a w => ∃ (ad6100 : Option Addr) (cap6101 : Nat) (css6102 : List (List Value)) (K6103 : Hp), St M W H [K6103, K6001, K5854, K5236, K1096, K1100, K1103, K1107, K20, K17, K14, H] [(13, Own.rows ad6100 cap6101 98 3 css6102 t6097), (10, cel b5243 3 [.int .i64 s5850.2.1]), (9, cel b5242 91 [.slice ad6100 t6097.length cap6101]), (8, Own.list (some ⟨b5985, 0, none⟩) cap1092 3 1 (encI .i64) l5238), (7, Own.rows ad1093 cap1094 63 5 css1095 t1089.2.1), (2, cel b1090 133 [.slice ad1098 t1089.2.2.1.length cap1099, .int .i64 r_2.out, .int .i64 r_2.within, mp1102, .slice ad1105 t1089.2.2.2.2.1.length cap1106, .slice ad1093 t1089.2.1.length cap1094, .slice (some ⟨b5985, 0, none⟩) t1089.1.length cap1092, .slice ad1109 t1089.2.2.2.2.2.length cap1110]), (1, Own.list ad1109 cap1110 31 1 (encI .i64) t1089.2.2.2.2.2)] w ∧ Has [] 26 a [] ∧ Rows (RSegment) 3 K6103 css6102 t6097) ?_ ?_
       ·refine ci rfl (fun hc6105 => ?_) (fun hc6105 => ?_)
        ·have hr6106 := if_p hc6105 hx6098
         obtain ⟨r6107, hx6108, hr6109⟩ := bd_some hr6106
         refine drG 17 mixed (by kernel_rfl) rfl (dt rfl (ld G91 rfl rfl (sO 9 rfl) rfl fin1) (dt rfl (ld G129 rfl rfl (sS 3 rfl hK5237) rfl fin1) (dt rfl (nl rfl rfl fin1) (dt rfl (fb 0 U133 rfl rfl rfl rfl Z56 fin1) (dt rfl (ldA G56 Z56 rfl rfl ((sO 2 rfl).take 3) rfl fin1) (dt rfl (ld G3 rfl rfl (sO 10 rfl) rfl fin1) (dt rfl (m1 rfl fin1) ?_)))))))
         refine DF.und (α := Option Addr × Nat) (none, 0) (fun q => .slice q.1 r6107.length q.2) (fun (q : Option Addr × Nat) K => Sl (Flat encS) 1 K q.1 q.2 r6107) (fun _ _ _ h x => x.mono (Flat.mono _) h) (by kernel_rfl) rfl (fun a w K hS hA hF => TG.pa hS hA (clK C68 rfl rfl rfl rfl (fun w H hH le => w68 hH (⟨t1089.2.2.1, r_2.out, r_2.within⟩ : Report) ⟨_, _, rfl, (hl1101.mono (Flat.mono _) (le.at 5 rfl))⟩ s5850.2.1 x5988.from_ hx6108) (by
           rintro v_ K6110 ⟨ad6111, cap6112, rfl, hl6113⟩
           exact finU (f := fun q => .slice q.1 r6107.length q.2) (G := (fun (q : Option Addr × Nat) K => Sl (Flat encS) 1 K q.1 q.2 r6107)) (_, _) (fun _ _ _ h x => x.mono (Flat.mono _) h) hl6113))) ?_
         rintro ⟨ad6115, cap6116⟩
         refine dt rfl (ld G129 rfl rfl (sS 3 rfl hK5237) rfl fin1) (dt rfl (nl rfl rfl fin1) (dt rfl (fb 0 U133 rfl rfl rfl rfl Z56 fin1) (dt rfl (ldA G56 Z56 rfl rfl ((sO 2 rfl).take 3) rfl fin1) (dt rfl (ld G3 rfl rfl (sO 10 rfl) rfl fin1) (dt rfl (m1 rfl fin1) ?_)))))
         refine DF.und (α := Option Addr × Nat) (none, 0) (fun q => .slice q.1 r6107.length q.2) (fun (q : Option Addr × Nat) K => Sl (Flat encS) 1 K q.1 q.2 r6107) (fun _ _ _ h x => x.mono (Flat.mono _) h) (by kernel_rfl) rfl (fun a w K hS hA hF => TG.pa hS hA (clK C68 rfl rfl rfl rfl (fun w H hH le => w68 hH (⟨t1089.2.2.1, r_2.out, r_2.within⟩ : Report) ⟨_, _, rfl, (hl1101.mono (Flat.mono _) (le.at 5 rfl))⟩ s5850.2.1 x5988.from_ hx6108) (by
           rintro v_ K6117 ⟨ad6118, cap6119, rfl, hl6120⟩
           exact finU (f := fun q => .slice q.1 r6107.length q.2) (G := (fun (q : Option Addr × Nat) K => Sl (Flat encS) 1 K q.1 q.2 r6107)) (_, _) (fun _ _ _ h x => x.mono (Flat.mono _) h) hl6120))) ?_
         rintro ⟨ad6122, cap6123⟩
         refine DF.und () (fun _ => .agg [.slice ad6115 r6107.length cap6116, .slice ad6122 r6107.length cap6123, .int .i64 (-1)].toArray) (fun _ K => Sl (Flat encS) 1 K ad6115 cap6116 r6107 ∧ Sl (Flat encS) 1 K ad6122 cap6123 r6107) (fun _ _ _ h x => ⟨x.1.mono (Flat.mono _) h, x.2.mono (Flat.mono _) h⟩) (by kernel_rfl) rfl (fun a w K hS hA hF => TG.pa hS hA (bu (cs := [.slice ad6115 r6107.length cap6116, .slice ad6122 r6107.length cap6123, .int .i64 (-1)]) T4.B98 rfl rfl rfl (finF (f := fun _ => .agg [.slice ad6115 r6107.length cap6116, .slice ad6122 r6107.length cap6123, .int .i64 (-1)].toArray) (G := fun _ K => Sl (Flat encS) 1 K ad6115 cap6116 r6107 ∧ Sl (Flat encS) 1 K ad6122 cap6123 r6107) () ⟨(hF.2.1 rfl), (hF.1 rfl)⟩))) fun _ => ?_
         refine DF.und (α := Option Addr × Nat) (none, 0) (fun q => .slice q.1 1 q.2) (fun (q : Option Addr × Nat) K => Sl (RSegment) 3 K q.1 q.2 ([(⟨r6107, r6107, (-1)⟩ : Segment)] : List Segment)) (fun _ _ _ h x => x.mono (RSegment.mono) h) (by kernel_rfl) rfl (fun a w K hS hA hF => TG.pa hS hA (bS (cs := [.slice ad6115 r6107.length cap6116, .slice ad6122 r6107.length cap6123, .int .i64 (-1)]) T4.E91 rfl rfl rfl rfl fun q6125 K6126 hq6127 hK6128 => by
           refine TG.pack (fun K => Sl (RSegment) 3 K (some q6125) 1 ([(⟨r6107, r6107, (-1)⟩ : Segment)] : List Segment)) (fun H le => Sl.litR (css := [[.slice ad6115 r6107.length cap6116, .slice ad6122 r6107.length cap6123, .int .i64 (-1)]]) (l := ([(⟨r6107, r6107, (-1)⟩ : Segment)] : List Segment)) ⟨⟨rfl, rfl, ⟨_, _, _, _, rfl, ((hF.1 rfl).1.mono (Flat.mono _) (le.at 1 rfl)), ((hF.1 rfl).2.mono (Flat.mono _) (le.at 1 rfl))⟩⟩, tv⟩ hq6127 (hK6128.mono (le.at 0 rfl)) rfl) fun K6130 hl6129 => ?_
           have := hl6129.len
           refine sk1 ?_
           exact finU (f := fun q => .slice q.1 1 q.2) (G := (fun (q : Option Addr × Nat) K => Sl (RSegment) 3 K q.1 q.2 ([(⟨r6107, r6107, (-1)⟩ : Segment)] : List Segment))) (_, _) (fun _ _ _ h x => x.mono (RSegment.mono) h) hl6129)) ?_
         rintro ⟨ad6132, cap6133⟩
         refine DF.nil fun K6134 hF => ?_
         obtain ⟨hu6131, hu6124, hu6121, hu6114, _⟩ := hF
         have := hu6114.len
         have := hu6121.len
         have := hu6131.len
         obtain ⟨hk6135, hr6136⟩ := chk_some hr6109
         have := lenA s5850.2.2 ([(⟨r6107, r6107, (-1)⟩ : Segment)] : List Segment)
         refine TG.pack (fun K => Sl (RSegment) 3 K ad6132 cap6133 ([(⟨r6107, r6107, (-1)⟩ : Segment)] : List Segment) ∧ Rows (RSegment) 3 K css5853 s5850.2.2) (fun H le => ⟨hu6131.mono (RSegment.mono) (le.at 0 rfl), hR5855.mono (RSegment.mono) (le.at 2 rfl)⟩) fun K6139 ⟨hm6140, hR6141⟩ => (apR 13 (l := s5850.2.2) (m := ([(⟨r6107, r6107, (-1)⟩ : Segment)] : List Segment)) T4.E91 rfl rfl rfl rfl rfl rfl hm6140 hR6141 RSegment.one rfl hk6135 fun ad6137 cap6138 css6143 hR6142 => (sto 9 (cs := [.slice ad6137 ((s5850.2.2 ++ ([(⟨r6107, r6107, (-1)⟩ : Segment)] : List Segment)).length) cap6138]) Z91 rfl rfl rfl rfl rfl rfl rfl (on ?_)))
         cases hr6136
         intro a w hS hA
         exact ⟨ad6137, cap6138, css6143, K6139, hS.selH [0, 2, 3, 4, 5, 6, 7, 8, 9, 10, 11, 12] rfl, hA.cut tv, hR6142⟩
        ·have hr6144 := if_n hc6105 hx6098
         refine sk ?_
         cases hr6144
         intro a w hS hA
         exact ⟨ad5851, cap5852, css5853, K5854, hS.selH [1, 0, 1, 2, 3, 4, 5, 6, 7, 8, 9, 10] rfl, hA.cut tv, hR5855⟩
       ·rintro a w ⟨ad6100, cap6101, css6102, K6103, hS, hA, hR6104⟩
        refine TG.ap ?_ hS hA
        cases hr6099
        intro a w hS hA
        refine ret0 hA rfl ?_
        exact ⟨_, rfl, ⟨ad6100, cap6101, css6102, K6103, rfl, hS, hR6104⟩⟩
      ·rintro a w v hA (⟨ad6052, cap6053, css6054, K6055, rfl, hS, hR6056⟩)
       refine putK rfl hA hS (on (sq ?_))
       obtain ⟨r6145, hx6146, hr6147⟩ := bd_some hr6051
       obtain ⟨r6148, hx6149, hr6150⟩ := bd_some hr6147
       obtain ⟨r6158, hx6159, hr6160⟩ := bd_some hr6150
       refine drG 16 mixed (by kernel_rfl) rfl (dt rfl (ld G91 rfl rfl (sO 9 rfl) rfl fin1) (dt rfl (ld G129 rfl rfl (sS 4 rfl hK5237) rfl fin1) (dt rfl (nl rfl rfl fin1) (dt rfl (fb 0 U133 rfl rfl rfl rfl Z56 fin1) (dt rfl (ldA G56 Z56 rfl rfl ((sO 2 rfl).take 3) rfl fin1) (dt rfl (fb 2 U63 rfl rfl rfl rfl Z3 fin1) (dt rfl (ld G3 rfl rfl (((sS 2 rfl hK6002).drop 2).take 1) rfl fin1) (dt rfl (ldA G63 Z63 rfl rfl (sS 2 rfl hK6002) rfl fin1) (dt rfl (clS C69 rfl rfl rfl rfl (fun w H hH le => w69 hH x5988 (RRequest.mono _ _ _ _ (le.at 12 rfl) hr5996) hx6146) fin1) ?_)))))))))
       refine DF.und (α := Option Addr × Nat) (none, 0) (fun q => .slice q.1 r6148.length q.2) (fun (q : Option Addr × Nat) K => Sl (Flat encS) 1 K q.1 q.2 r6148) (fun _ _ _ h x => x.mono (Flat.mono _) h) (by kernel_rfl) rfl (fun a w K hS hA hF => TG.pa hS hA (clK C68 rfl rfl rfl rfl (fun w H hH le => w68 hH (⟨t1089.2.2.1, r_2.out, r_2.within⟩ : Report) ⟨_, _, rfl, (hl1101.mono (Flat.mono _) (le.at 6 rfl))⟩ x5988.from_ r6145 hx6149) (by
         rintro v_ K6151 ⟨ad6152, cap6153, rfl, hl6154⟩
         exact finU (f := fun q => .slice q.1 r6148.length q.2) (G := (fun (q : Option Addr × Nat) K => Sl (Flat encS) 1 K q.1 q.2 r6148)) (_, _) (fun _ _ _ h x => x.mono (Flat.mono _) h) hl6154))) ?_
       rintro ⟨ad6156, cap6157⟩
       refine dt rfl (fb 4 U63 rfl rfl rfl rfl Z24 fin1) (dt rfl (ld G24 rfl rfl ((sS 2 rfl hK6002).drop 4) rfl fin1) ?_)
       refine DF.und (α := Option Addr × Nat) (none, 0) (fun q => .slice q.1 r6158.length q.2) (fun (q : Option Addr × Nat) K => Sl (Flat encS) 1 K q.1 q.2 r6158) (fun _ _ _ h x => x.mono (Flat.mono _) h) (by kernel_rfl) rfl (fun a w K hS hA hF => TG.pa hS hA (clK C70 rfl rfl rfl rfl (fun w H hH le => w70 hH (hl5999.mono (Flat.mono _) (le.at 12 rfl)) hx6159) (by
         rintro v_ K6161 ⟨ad6162, cap6163, rfl, hl6164⟩
         exact finU (f := fun q => .slice q.1 r6158.length q.2) (G := (fun (q : Option Addr × Nat) K => Sl (Flat encS) 1 K q.1 q.2 r6158)) (_, _) (fun _ _ _ h x => x.mono (Flat.mono _) h) hl6164))) ?_
       rintro ⟨ad6166, cap6167⟩
       refine dt rfl (m1 rfl fin1) (DF.und () (fun _ => .agg [.slice ad6156 r6148.length cap6157, .slice ad6166 r6158.length cap6167, .int .i64 x5982].toArray) (fun _ K => Sl (Flat encS) 1 K ad6156 cap6157 r6148 ∧ Sl (Flat encS) 1 K ad6166 cap6167 r6158) (fun _ _ _ h x => ⟨x.1.mono (Flat.mono _) h, x.2.mono (Flat.mono _) h⟩) (by kernel_rfl) rfl (fun a w K hS hA hF => TG.pa hS hA (bu (cs := [.slice ad6156 r6148.length cap6157, .slice ad6166 r6158.length cap6167, .int .i64 x5982]) T4.B98 rfl rfl rfl (finF (f := fun _ => .agg [.slice ad6156 r6148.length cap6157, .slice ad6166 r6158.length cap6167, .int .i64 x5982].toArray) (G := fun _ K => Sl (Flat encS) 1 K ad6156 cap6157 r6148 ∧ Sl (Flat encS) 1 K ad6166 cap6167 r6158) () ⟨(hF.2.1 rfl), (hF.1 rfl)⟩))) fun _ => ?_)
       refine DF.und (α := Option Addr × Nat) (none, 0) (fun q => .slice q.1 1 q.2) (fun (q : Option Addr × Nat) K => Sl (RSegment) 3 K q.1 q.2 ([(⟨r6148, r6158, x5982⟩ : Segment)] : List Segment)) (fun _ _ _ h x => x.mono (RSegment.mono) h) (by kernel_rfl) rfl (fun a w K hS hA hF => TG.pa hS hA (bS (cs := [.slice ad6156 r6148.length cap6157, .slice ad6166 r6158.length cap6167, .int .i64 x5982]) T4.E91 rfl rfl rfl rfl fun q6169 K6170 hq6171 hK6172 => by
         refine TG.pack (fun K => Sl (RSegment) 3 K (some q6169) 1 ([(⟨r6148, r6158, x5982⟩ : Segment)] : List Segment)) (fun H le => Sl.litR (css := [[.slice ad6156 r6148.length cap6157, .slice ad6166 r6158.length cap6167, .int .i64 x5982]]) (l := ([(⟨r6148, r6158, x5982⟩ : Segment)] : List Segment)) ⟨⟨rfl, rfl, ⟨_, _, _, _, rfl, ((hF.1 rfl).1.mono (Flat.mono _) (le.at 1 rfl)), ((hF.1 rfl).2.mono (Flat.mono _) (le.at 1 rfl))⟩⟩, tv⟩ hq6171 (hK6172.mono (le.at 0 rfl)) rfl) fun K6174 hl6173 => ?_
         have := hl6173.len
         refine sk1 ?_
         exact finU (f := fun q => .slice q.1 1 q.2) (G := (fun (q : Option Addr × Nat) K => Sl (RSegment) 3 K q.1 q.2 ([(⟨r6148, r6158, x5982⟩ : Segment)] : List Segment))) (_, _) (fun _ _ _ h x => x.mono (RSegment.mono) h) hl6173)) ?_
       rintro ⟨ad6176, cap6177⟩
       refine DF.nil fun K6178 hF => ?_
       obtain ⟨hu6175, hu6168, hu6165, hu6155, _⟩ := hF
       have := hu6155.len
       have := hu6165.len
       have := hu6175.len
       obtain ⟨hk6179, hr6180⟩ := chk_some hr6160
       have := lenA t6049 ([(⟨r6148, r6158, x5982⟩ : Segment)] : List Segment)
       refine TG.pack (fun K => Sl (RSegment) 3 K ad6176 cap6177 ([(⟨r6148, r6158, x5982⟩ : Segment)] : List Segment) ∧ Rows (RSegment) 3 K css6054 t6049) (fun H le => ⟨hu6175.mono (RSegment.mono) (le.at 0 rfl), hR6056.mono (RSegment.mono) (le.at 1 rfl)⟩) fun K6183 ⟨hm6184, hR6185⟩ => (apR 13 (l := t6049) (m := ([(⟨r6148, r6158, x5982⟩ : Segment)] : List Segment)) T4.E91 rfl rfl rfl rfl rfl rfl hm6184 hR6185 RSegment.one rfl hk6179 fun ad6181 cap6182 css6187 hR6186 => (sto 9 (cs := [.slice ad6181 ((t6049 ++ ([(⟨r6148, r6158, x5982⟩ : Segment)] : List Segment)).length) cap6182]) Z91 rfl rfl rfl rfl rfl rfl rfl (on (rg (ldA G63 Z63 rfl rfl (sS 3 rfl hK6002) rfl (clS C69 rfl rfl rfl rfl (fun w H hH le => w69 hH x5988 (RRequest.mono _ _ _ _ (le.at 13 rfl) hr5996) hx6146) (sto 10 (cs := [.int .i64 r6145]) Z3 rfl rfl rfl rfl rfl rfl rfl (on (rg (adI rfl rfl rfl (by omega) (m1 rfl ?_)))))))))))
       refine on ?_
       cases hr6180
       intro a w hS hA
       exact ⟨_, hz5857, ad6181, cap6182, css6187, K6183, hS.selH [0, 5, 6, 7, 8, 9, 10, 11, 12, 13] rfl, hA.cut ⟨rfl, rfl, rfl, rfl, rfl, rfl, rfl, rfl, rfl, tv⟩, hR6186⟩
     ·have hr6188 := if_n hc5862 hr5856
      refine xt rfl ?_
      cases hr6188
      obtain rfl := Fin.out hz5857
      intro a w hS hA
      exact ⟨ad5851, cap5852, css5853, K5854, hS, hA.cut ⟨rfl, rfl, rfl, tv⟩, hR5855⟩
   ·rintro a w ⟨ad5845, cap5846, css5847, K5848, hS, hA, hR5849⟩
    refine TG.ap ?_ hS hA
    refine sq (rg (m1 rfl (fb 0 U56 rfl rfl rfl rfl Z54 (ld G54 rfl rfl ((sS 7 rfl hK18).take 1) rfl (lnL U54 rfl rfl ?_)))))
    obtain ⟨t6235, hx6236, hr6237⟩ := bd_some hr5844
    refine clI C67 Tryz.func67 rfl Tryz.ntmps67 rfl rfl rfl rfl (fun v w => (∃ (ad6238 : Option Addr) (cap6239 : Nat) (css6240 : List (List Value)) (K6241 : Hp), v = .tuple #[] ∧ St M W H [K6241, K5848, K5236, K1096, K1100, K1103, K1107, K20, K17, K14, H] [(13, Own.rows ad6238 cap6239 98 3 css6240 t6235), (10, cel b5243 3 [.int .i64 e5842.1]), (9, cel b5242 91 [.slice ad6238 t6235.length cap6239]), (8, Own.list ad1091 cap1092 3 1 (encI .i64) l5238), (7, Own.rows ad1093 cap1094 63 5 css1095 t1089.2.1), (2, cel b1090 133 [.slice ad1098 t1089.2.2.1.length cap1099, .int .i64 r_2.out, .int .i64 r_2.within, mp1102, .slice ad1105 t1089.2.2.2.2.1.length cap1106, .slice ad1093 t1089.2.1.length cap1094, .slice ad1091 t1089.1.length cap1092, .slice ad1109 t1089.2.2.2.2.2.length cap1110]), (1, Own.list ad1109 cap1110 31 1 (encI .i64) t1089.2.2.2.2.2)] w ∧ Rows (RSegment) 3 K6241 css6240 t6235)) ?_ ?_
    ·refine sq (rg (ld G3 rfl rfl (sO 10 rfl) rfl (m1 rfl (ltI rfl rfl rfl (on ?_)))))
     obtain ⟨t6283, hx6284, hr6285⟩ := bd_some hx6236
     refine jn (fun a w => ∃ (ad6286 : Option Addr) (cap6287 : Nat) (css6288 : List (List Value)) (K6289 : Hp), St M W H [K6289, K5848, K5236, K1096, K1100, K1103, K1107, K20, K17, K14, H] [(13, Own.rows ad6286 cap6287 98 3 css6288 t6283), (10, cel b5243 3 [.int .i64 e5842.1]), (9, cel b5242 91 [.slice ad6286 t6283.length cap6287]), (8, Own.list ad1091 cap1092 3 1 (encI .i64) l5238), (7, Own.rows ad1093 cap1094 63 5 css1095 t1089.2.1), (2, cel b1090 133 [.slice ad1098 t1089.2.2.1.length cap1099, .int .i64 r_2.out, .int .i64 r_2.within, mp1102, .slice ad1105 t1089.2.2.2.2.1.length cap1106, .slice ad1093 t1089.2.1.length cap1094, .slice ad1091 t1089.1.length cap1092, .slice ad1109 t1089.2.2.2.2.2.length cap1110]), (1, Own.list ad1109 cap1110 31 1 (encI .i64) t1089.2.2.2.2.2)] w ∧ Has [] 26 a [] ∧ Rows (RSegment) 3 K6289 css6288 t6283) ?_ ?_
     ·refine ci rfl (fun hc6291 => ?_) (fun hc6291 => ?_)
      ·have hr6292 := if_p hc6291 hx6284
       obtain ⟨r6293, hx6294, hr6295⟩ := bd_some hr6292
       refine drG 17 mixed (by kernel_rfl) rfl (dt rfl (ld G91 rfl rfl (sO 9 rfl) rfl fin1) (dt rfl (ld G129 rfl rfl (sS 2 rfl hK5237) rfl fin1) (dt rfl (nl rfl rfl fin1) (dt rfl (fb 0 U133 rfl rfl rfl rfl Z56 fin1) (dt rfl (ldA G56 Z56 rfl rfl ((sO 2 rfl).take 3) rfl fin1) (dt rfl (ld G3 rfl rfl (sO 10 rfl) rfl fin1) (dt rfl (m1 rfl fin1) ?_)))))))
       refine DF.und (α := Option Addr × Nat) (none, 0) (fun q => .slice q.1 r6293.length q.2) (fun (q : Option Addr × Nat) K => Sl (Flat encS) 1 K q.1 q.2 r6293) (fun _ _ _ h x => x.mono (Flat.mono _) h) (by kernel_rfl) rfl (fun a w K hS hA hF => TG.pa hS hA (clK C68 rfl rfl rfl rfl (fun w H hH le => w68 hH (⟨t1089.2.2.1, r_2.out, r_2.within⟩ : Report) ⟨_, _, rfl, (hl1101.mono (Flat.mono _) (le.at 4 rfl))⟩ e5842.1 (r_2.words.length : Int) hx6294) (by
         rintro v_ K6296 ⟨ad6297, cap6298, rfl, hl6299⟩
         exact finU (f := fun q => .slice q.1 r6293.length q.2) (G := (fun (q : Option Addr × Nat) K => Sl (Flat encS) 1 K q.1 q.2 r6293)) (_, _) (fun _ _ _ h x => x.mono (Flat.mono _) h) hl6299))) ?_
       rintro ⟨ad6301, cap6302⟩
       refine dt rfl (ld G129 rfl rfl (sS 2 rfl hK5237) rfl fin1) (dt rfl (nl rfl rfl fin1) (dt rfl (fb 0 U133 rfl rfl rfl rfl Z56 fin1) (dt rfl (ldA G56 Z56 rfl rfl ((sO 2 rfl).take 3) rfl fin1) (dt rfl (ld G3 rfl rfl (sO 10 rfl) rfl fin1) (dt rfl (m1 rfl fin1) ?_)))))
       refine DF.und (α := Option Addr × Nat) (none, 0) (fun q => .slice q.1 r6293.length q.2) (fun (q : Option Addr × Nat) K => Sl (Flat encS) 1 K q.1 q.2 r6293) (fun _ _ _ h x => x.mono (Flat.mono _) h) (by kernel_rfl) rfl (fun a w K hS hA hF => TG.pa hS hA (clK C68 rfl rfl rfl rfl (fun w H hH le => w68 hH (⟨t1089.2.2.1, r_2.out, r_2.within⟩ : Report) ⟨_, _, rfl, (hl1101.mono (Flat.mono _) (le.at 4 rfl))⟩ e5842.1 (r_2.words.length : Int) hx6294) (by
         rintro v_ K6303 ⟨ad6304, cap6305, rfl, hl6306⟩
         exact finU (f := fun q => .slice q.1 r6293.length q.2) (G := (fun (q : Option Addr × Nat) K => Sl (Flat encS) 1 K q.1 q.2 r6293)) (_, _) (fun _ _ _ h x => x.mono (Flat.mono _) h) hl6306))) ?_
       rintro ⟨ad6308, cap6309⟩
       refine DF.und () (fun _ => .agg [.slice ad6301 r6293.length cap6302, .slice ad6308 r6293.length cap6309, .int .i64 (-1)].toArray) (fun _ K => Sl (Flat encS) 1 K ad6301 cap6302 r6293 ∧ Sl (Flat encS) 1 K ad6308 cap6309 r6293) (fun _ _ _ h x => ⟨x.1.mono (Flat.mono _) h, x.2.mono (Flat.mono _) h⟩) (by kernel_rfl) rfl (fun a w K hS hA hF => TG.pa hS hA (bu (cs := [.slice ad6301 r6293.length cap6302, .slice ad6308 r6293.length cap6309, .int .i64 (-1)]) T4.B98 rfl rfl rfl (finF (f := fun _ => .agg [.slice ad6301 r6293.length cap6302, .slice ad6308 r6293.length cap6309, .int .i64 (-1)].toArray) (G := fun _ K => Sl (Flat encS) 1 K ad6301 cap6302 r6293 ∧ Sl (Flat encS) 1 K ad6308 cap6309 r6293) () ⟨(hF.2.1 rfl), (hF.1 rfl)⟩))) fun _ => ?_
       refine DF.und (α := Option Addr × Nat) (none, 0) (fun q => .slice q.1 1 q.2) (fun (q : Option Addr × Nat) K => Sl (RSegment) 3 K q.1 q.2 ([(⟨r6293, r6293, (-1)⟩ : Segment)] : List Segment)) (fun _ _ _ h x => x.mono (RSegment.mono) h) (by kernel_rfl) rfl (fun a w K hS hA hF => TG.pa hS hA (bS (cs := [.slice ad6301 r6293.length cap6302, .slice ad6308 r6293.length cap6309, .int .i64 (-1)]) T4.E91 rfl rfl rfl rfl fun q6311 K6312 hq6313 hK6314 => by
         refine TG.pack (fun K => Sl (RSegment) 3 K (some q6311) 1 ([(⟨r6293, r6293, (-1)⟩ : Segment)] : List Segment)) (fun H le => Sl.litR (css := [[.slice ad6301 r6293.length cap6302, .slice ad6308 r6293.length cap6309, .int .i64 (-1)]]) (l := ([(⟨r6293, r6293, (-1)⟩ : Segment)] : List Segment)) ⟨⟨rfl, rfl, ⟨_, _, _, _, rfl, ((hF.1 rfl).1.mono (Flat.mono _) (le.at 1 rfl)), ((hF.1 rfl).2.mono (Flat.mono _) (le.at 1 rfl))⟩⟩, tv⟩ hq6313 (hK6314.mono (le.at 0 rfl)) rfl) fun K6316 hl6315 => ?_
         have := hl6315.len
         refine sk1 ?_
         exact finU (f := fun q => .slice q.1 1 q.2) (G := (fun (q : Option Addr × Nat) K => Sl (RSegment) 3 K q.1 q.2 ([(⟨r6293, r6293, (-1)⟩ : Segment)] : List Segment))) (_, _) (fun _ _ _ h x => x.mono (RSegment.mono) h) hl6315)) ?_
       rintro ⟨ad6318, cap6319⟩
       refine DF.nil fun K6320 hF => ?_
       obtain ⟨hu6317, hu6310, hu6307, hu6300, _⟩ := hF
       have := hu6300.len
       have := hu6307.len
       have := hu6317.len
       obtain ⟨hk6321, hr6322⟩ := chk_some hr6295
       have := lenA e5842.2 ([(⟨r6293, r6293, (-1)⟩ : Segment)] : List Segment)
       refine TG.pack (fun K => Sl (RSegment) 3 K ad6318 cap6319 ([(⟨r6293, r6293, (-1)⟩ : Segment)] : List Segment) ∧ Rows (RSegment) 3 K css5847 e5842.2) (fun H le => ⟨hu6317.mono (RSegment.mono) (le.at 0 rfl), hR5849.mono (RSegment.mono) (le.at 1 rfl)⟩) fun K6325 ⟨hm6326, hR6327⟩ => (apR 13 (l := e5842.2) (m := ([(⟨r6293, r6293, (-1)⟩ : Segment)] : List Segment)) T4.E91 rfl rfl rfl rfl rfl rfl hm6326 hR6327 RSegment.one rfl hk6321 fun ad6323 cap6324 css6329 hR6328 => (sto 9 (cs := [.slice ad6323 ((e5842.2 ++ ([(⟨r6293, r6293, (-1)⟩ : Segment)] : List Segment)).length) cap6324]) Z91 rfl rfl rfl rfl rfl rfl rfl (on ?_)))
       cases hr6322
       intro a w hS hA
       exact ⟨ad6323, cap6324, css6329, K6325, hS.selH [0, 2, 3, 4, 5, 6, 7, 8, 9, 10, 11] rfl, hA.cut tv, hR6328⟩
      ·have hr6330 := if_n hc6291 hx6284
       refine sk ?_
       cases hr6330
       intro a w hS hA
       exact ⟨ad5845, cap5846, css5847, K5848, hS.selH [0, 0, 1, 2, 3, 4, 5, 6, 7, 8, 9] rfl, hA.cut tv, hR5849⟩
     ·rintro a w ⟨ad6286, cap6287, css6288, K6289, hS, hA, hR6290⟩
      refine TG.ap ?_ hS hA
      cases hr6285
      intro a w hS hA
      refine ret0 hA rfl ?_
      exact ⟨_, rfl, ⟨ad6286, cap6287, css6288, K6289, rfl, hS, hR6290⟩⟩
    ·rintro a w v hA (⟨ad6238, cap6239, css6240, K6241, rfl, hS, hR6242⟩)
     refine putK rfl hA hS (on (sq (rg (ld G91 rfl rfl (sO 9 rfl) rfl (a1 rfl (a1 rfl (on (rt_ ?_))))))))
     cases hr6237
     intro a w hS hA
     refine ret2 hA rfl rfl rfl ?_
     exact ⟨⟨_, _, rfl, (hS.rowsOut 13 rfl 0 rfl (RSegment.mono) hR6242)⟩, hS.ext⟩

theorem w44 {M : Prop} {W : World} {H : Hp} (hH : H.le (hp W)) {cs_r_0 : List Value} (r_0 : Report) (h_r_0 : (RReport) H cs_r_0 r_0) {ad_requests : Option Addr} {cap_requests : Nat} {requests : List Request} (h_requests : Sl (RRequest) 5 H ad_requests cap_requests requests) {ad_errors : Option Addr} {cap_errors : Nat} {errors : List Int} (h_errors : Sl (Flat (encI .i64)) 1 H ad_errors cap_errors errors) {r : List Segment} (hr : m44 r_0 requests errors = some r) : Calls Tryz.prog 44 [.agg cs_r_0.toArray, .slice ad_requests requests.length cap_requests, .slice ad_errors errors.length cap_errors].toArray W (RetK M H W (fun v K => ∃ (ad0 : Option Addr) (cap0 : Nat), v = .slice ad0 r.length cap0 ∧ Sl (RSegment) 3 K ad0 cap0 r)) := by
 have hh_r_0 := h_r_0
 obtain ⟨ad1, cap2, rfl, hl3⟩ := h_r_0
 have := hl3.len
 have := h_requests.len
 have := h_errors.len
 unfold m44 at hr
 refine enterG (M := M) Tryz.func44 rfl Tryz.ntmps44 rfl hH ?_
 refine sq (rg (bI (cs := [.slice ad1 r_0.words.length cap2, .int .i64 r_0.out, .int .i64 r_0.within]) rfl rfl rfl fun q4 K5 hK6 => (a1 rfl (on (sq (rg (a1 rfl (on (sq (rg (a1 rfl ?_)))))))))))
 refine on (sq (sq (rg (a1 rfl (on (TG.nilRow 2 108 3 ?_))))))
 have hR1107 : Rows (RSegment) 3 H [] ([] : List Segment) := tv
 refine TG.as 2 (z := Own.rows none 0 108 3 [] ([] : List Segment)) rfl rfl ?_
 obtain ⟨e2215, hl2216, hr2217⟩ := bd_some hr
 refine jn (fun a w => ∃ (ad2218 : Option Addr) (cap2219 : Nat) (css2220 : List (List Value)) (K2221 : Hp), St M W H [K2221, K5, H] [(2, Own.rows ad2218 cap2219 108 3 css2220 e2215.2)] w ∧ Has [] 107 a [(3, .pointer (some q4)), (7, .slice ad2218 e2215.2.length cap2219), (8, .int .i64 e2215.1)] ∧ Rows (RSegment) 3 K2221 css2220 e2215.2) ?_ ?_
 ·refine bk ?_
  refine lp hl2216 (fun s2223 a w => ∃ (ad2224 : Option Addr) (cap2225 : Nat) (css2226 : List (List Value)) (K2227 : Hp), St M W H [K2227, K5, H] [(2, Own.rows ad2224 cap2225 108 3 css2226 s2223.2.2)] w ∧ Has [] 107 a [(1, .slice ad_requests requests.length cap_requests), (2, .slice ad_errors errors.length cap_errors), (3, .pointer (some q4)), (7, .slice ad2224 s2223.2.2.length cap2225), (8, .int .i64 s2223.2.1), (9, .int .i64 (s2223.1 : Int))] ∧ Rows (RSegment) 3 K2227 css2226 s2223.2.2) ?_ ?_
  ·intro a w hS hA
   exact ⟨none, 0, [], H, hS.selH [1, 0, 1] rfl, hA.cut ⟨rfl, rfl, rfl, rfl, rfl, rfl, tv⟩, hR1107⟩
  ·rintro j s2223 y2231 hr2229 hz2230 a w ⟨ad2224, cap2225, css2226, K2227, hS, hA, hR2228⟩
   refine TG.ap ?_ hS hA
   unfold m44_1 at hr2229
   refine sq (sq (rg (m1 rfl (fb 0 U68 rfl rfl rfl rfl Z66 (ld G66 rfl rfl ((sS 1 rfl hK6).take 1) rfl (lnL U66 rfl rfl (leI rfl rfl rfl (on ?_))))))))
   refine ci rfl (fun hc2235 => ?_) (fun hc2235 => ?_)
   ·have hr2236 := if_p hc2235 hr2229
    refine sk (sq (bk (sq (rg (a1 rfl (on ?_))))))
    obtain ⟨e3311, hl3312, hr3313⟩ := bd_some hr2236
    refine jn (fun a w => ∃ (ad3314 : Option Addr) (cap3315 : Nat) (css3316 : List (List Value)) (K3317 : Hp), St M W H [K3317, K2227, K5, H] [(2, Own.rows ad3314 cap3315 108 3 css3316 e3311.2)] w ∧ Has [] 107 a [(1, .slice ad_requests requests.length cap_requests), (2, .slice ad_errors errors.length cap_errors), (3, .pointer (some q4)), (7, .slice ad3314 e3311.2.length cap3315), (8, .int .i64 e3311.1), (9, .int .i64 (s2223.1 : Int))] ∧ Rows (RSegment) 3 K3317 css3316 e3311.2) ?_ ?_
    ·refine bk ?_
     refine lp hl3312 (fun s3319 a w => ∃ (ad3320 : Option Addr) (cap3321 : Nat) (css3322 : List (List Value)) (K3323 : Hp), St M W H [K3323, K2227, K5, H] [(2, Own.rows ad3320 cap3321 108 3 css3322 s3319.2.2)] w ∧ Has [] 107 a [(1, .slice ad_requests requests.length cap_requests), (2, .slice ad_errors errors.length cap_errors), (3, .pointer (some q4)), (7, .slice ad3320 s3319.2.2.length cap3321), (8, .int .i64 s3319.2.1), (9, .int .i64 (s2223.1 : Int)), (10, .int .i64 (s3319.1 : Int))] ∧ Rows (RSegment) 3 K3323 css3322 s3319.2.2) ?_ ?_
     ·intro a w hS hA
      exact ⟨ad2224, cap2225, css2226, K2227, hS.selH [0, 0, 1, 2] rfl, hA.cut ⟨rfl, rfl, rfl, rfl, rfl, rfl, rfl, tv⟩, hR2228⟩
     ·rintro j s3319 y3327 hr3325 hz3326 a w ⟨ad3320, cap3321, css3322, K3323, hS, hA, hR3324⟩
      refine TG.ap ?_ hS hA
      unfold m44_2 at hr3325
      refine sq (sq (rg (m1 rfl (ltI rfl rfl rfl (on ?_)))))
      refine ci rfl (fun hc3331 => ?_) (fun hc3331 => ?_)
      ·have hr3332 := if_p hc3331 hr3325
       refine sk (sq (bk (sq (rg (a1 rfl (on ?_))))))
       obtain ⟨e3843, hl3844, hr3845⟩ := bd_some hr3332
       refine jn (fun a w => ∃ (ad3846 : Option Addr) (cap3847 : Nat) (css3848 : List (List Value)) (K3849 : Hp), St M W H [K3849, K3323, K2227, K5, H] [(2, Own.rows ad3846 cap3847 108 3 css3848 e3843.2)] w ∧ Has [] 107 a [(1, .slice ad_requests requests.length cap_requests), (2, .slice ad_errors errors.length cap_errors), (3, .pointer (some q4)), (7, .slice ad3846 e3843.2.length cap3847), (8, .int .i64 e3843.1), (9, .int .i64 (s2223.1 : Int)), (10, .int .i64 (s3319.1 : Int))] ∧ Rows (RSegment) 3 K3849 css3848 e3843.2) ?_ ?_
       ·refine bk ?_
        refine lp hl3844 (fun s3851 a w => ∃ (ad3852 : Option Addr) (cap3853 : Nat) (css3854 : List (List Value)) (K3855 : Hp), St M W H [K3855, K3323, K2227, K5, H] [(2, Own.rows ad3852 cap3853 108 3 css3854 s3851.2.2)] w ∧ Has [] 107 a [(1, .slice ad_requests requests.length cap_requests), (2, .slice ad_errors errors.length cap_errors), (3, .pointer (some q4)), (7, .slice ad3852 s3851.2.2.length cap3853), (8, .int .i64 s3851.2.1), (9, .int .i64 (s2223.1 : Int)), (10, .int .i64 (s3319.1 : Int)), (11, .int .i64 (s3851.1 : Int))] ∧ Rows (RSegment) 3 K3855 css3854 s3851.2.2) ?_ ?_
        ·intro a w hS hA
         exact ⟨ad3320, cap3321, css3322, K3323, hS.selH [0, 0, 1, 2, 3] rfl, hA.cut ⟨rfl, rfl, rfl, rfl, rfl, rfl, rfl, rfl, tv⟩, hR3324⟩
        ·rintro j s3851 y3859 hr3857 hz3858 a w ⟨ad3852, cap3853, css3854, K3855, hS, hA, hR3856⟩
         refine TG.ap ?_ hS hA
         unfold m44_3 at hr3857
         refine sq (sq (rg (m1 rfl (m1 rfl (lnL U69 rfl rfl (ltI rfl rfl rfl (on ?_)))))))
         refine ci rfl (fun hc3863 => ?_) (fun hc3863 => ?_)
         ·have hr3864 := if_p hc3863 hr3857
          refine sk (sq ?_)
          obtain ⟨t3976, hx3977, hr3978⟩ := bd_some hr3864
          refine jn (fun a w => ∃ (ad3979 : Option Addr) (cap3980 : Nat) (css3981 : List (List Value)) (K3982 : Hp), St M W H [K3982, K3855, K3323, K2227, K5, H] [(2, Own.rows ad3979 cap3980 108 3 css3981 t3976.2)] w ∧ Has [] 107 a [(1, .slice ad_requests requests.length cap_requests), (2, .slice ad_errors errors.length cap_errors), (3, .pointer (some q4)), (7, .slice ad3979 t3976.2.length cap3980), (8, .int .i64 t3976.1), (9, .int .i64 (s2223.1 : Int)), (10, .int .i64 (s3319.1 : Int)), (11, .int .i64 (s3851.1 : Int))] ∧ Rows (RSegment) 3 K3982 css3981 t3976.2) ?_ ?_
          ·refine bk (sq (rg (m1 rfl (m1 rfl ?_))))
           obtain ⟨x3984, hx3985, hr3986⟩ := bd_some hx3977
           obtain ⟨p3987, rfl⟩ := h_requests.adr hx3985
           obtain ⟨cs3988, hcs3989, hq3990, hr3991⟩ := h_requests.at hx3985
           have hr3992 := hr3991
           obtain ⟨ad3993, cap3994, rfl, hl3995⟩ := hr3991
           have := hl3995.len
           refine iaP U69 Z73 rfl rfl rfl rfl (lt_of hx3985) (ldA G73 Z73 rfl rfl (sS 4 rfl hq3990) rfl (va (cs := [.int .i64 x3984.by_, .int .i64 x3984.minute, .int .i64 x3984.from_, .int .i64 x3984.cut, .slice ad3993 x3984.put_.length cap3994]) Tryz.zeroValue73 Z73 rfl rfl rfl rfl rfl rfl rfl rfl fun q3996 K3997 hK3998 => (on (sq (sq ?_)))))
           obtain ⟨t4013, hx4014, hr4015⟩ := bd_some hr3986
           refine jn (fun a w => St M W H [K3997, K3855, K3323, K2227, K5, H] [(2, Own.rows ad3852 cap3853 108 3 css3854 s3851.2.2)] w ∧ Has [] 107 a [(1, .slice (some p3987) requests.length cap_requests), (2, .slice ad_errors errors.length cap_errors), (3, .pointer (some q4)), (7, .slice ad3852 s3851.2.2.length cap3853), (8, .int .i64 s3851.2.1), (9, .int .i64 (s2223.1 : Int)), (10, .int .i64 (s3319.1 : Int)), (11, .int .i64 (s3851.1 : Int)), (12, .pointer (some q3996)), (51, .bool t4013)]) ?_ ?_
           ·refine rg (m1 rfl (m1 rfl ?_))
            obtain ⟨x4016, hx4017, hr4018⟩ := bd_some hx4014
            obtain ⟨p4019, rfl⟩ := h_errors.adr hx4017
            obtain ⟨cs4020, hcs4021, hq4022, hr4023⟩ := h_errors.at hx4017
            obtain rfl := hr4023
            refine iaP U86 Z3 rfl rfl rfl rfl (lt_of hx4017) (ld G3 rfl rfl (sS 5 rfl hq4022) rfl (neI rfl rfl rfl (m1 rfl ?_)))
            by_cases hb4024 : x4016 ≠ 0
            ·have hr4025 := if_p hb4024 hr4018
             refine gf' hb4024 rfl (gf' hb4024 rfl (gf' hb4024 rfl (gf' hb4024 rfl (pt hb4024 rfl rfl (m1 rfl (gF rfl rfl rfl rfl (gF rfl rfl rfl rfl (gF rfl rfl rfl rfl (gF rfl rfl rfl rfl (gF rfl rfl rfl rfl (pT rfl rfl rfl rfl ?_)))))))))))
             refine on ?_
             cases hr4025
             exact cu ⟨rfl, rfl, rfl, rfl, rfl, rfl, rfl, rfl, rfl, rfl, tv⟩
            ·have hr4026 := if_n hb4024 hr4018
             refine gt' hb4024 rfl (fb 2 U73 rfl rfl rfl rfl Z3 (gt' hb4024 rfl (ld G3 rfl rfl (((sS 0 rfl hK3998).drop 2).take 1) rfl (gt' hb4024 rfl (m1 rfl (gt' hb4024 rfl (neI rfl rfl rfl (pf hb4024 rfl rfl (m1 rfl ?_)))))))))
             by_cases hb4027 : x3984.from_ ≠ (s2223.1 : Int)
             ·have hr4028 := if_p hb4027 hr4026
              refine gf' hb4027 rfl (gf' hb4027 rfl (gf' hb4027 rfl (gf' hb4027 rfl (gf' hb4027 rfl (pt hb4027 rfl rfl (on ?_))))))
              cases hr4028
              exact cu ⟨rfl, rfl, rfl, rfl, rfl, rfl, rfl, rfl, rfl, rfl, tv⟩
             ·have hr4029 := if_n hb4027 hr4026
              refine gt' hb4027 rfl (fb 3 U73 rfl rfl rfl rfl Z3 (gt' hb4027 rfl (ld G3 rfl rfl (((sS 0 rfl hK3998).drop 3).take 1) rfl (gt' hb4027 rfl (mn2 rfl rfl rfl (gt' hb4027 rfl (m1 rfl (gt' hb4027 rfl (neI rfl rfl rfl (pf hb4027 rfl rfl (on ?_)))))))))))
              cases hr4029
              exact cu ⟨rfl, rfl, rfl, rfl, rfl, rfl, rfl, rfl, rfl, rfl, tv⟩
           ·rintro a w ⟨hS, hA⟩
            refine TG.ap ?_ hS hA
            refine cb rfl (fun hc4033 => ?_) (fun hc4033 => ?_)
            ·have hr4034 := if_p hc4033 hr4015
             refine xt rfl ?_
             cases hr4034
             intro a w hS hA
             exact ⟨ad3852, cap3853, css3854, K3855, hS.selH [1, 1, 2, 3, 4, 5] rfl, hA.cut ⟨rfl, rfl, rfl, rfl, rfl, rfl, rfl, rfl, tv⟩, hR3856⟩
            ·have hr4035 := if_f hc4033 hr4015
             refine sk (sq (sq (rg (m1 rfl (m1 rfl (ltI rfl rfl rfl (on ?_)))))))
             obtain ⟨t4076, hx4077, hr4078⟩ := bd_some hr4035
             refine jn (fun a w => ∃ (ad4079 : Option Addr) (cap4080 : Nat) (css4081 : List (List Value)) (K4082 : Hp), St M W H [K4082, K3997, K3855, K3323, K2227, K5, H] [(2, Own.rows ad4079 cap4080 108 3 css4081 t4076)] w ∧ Has [] 107 a [(1, .slice (some p3987) requests.length cap_requests), (2, .slice ad_errors errors.length cap_errors), (3, .pointer (some q4)), (7, .slice ad4079 t4076.length cap4080), (9, .int .i64 (s2223.1 : Int)), (10, .int .i64 (s3319.1 : Int)), (11, .int .i64 (s3851.1 : Int)), (12, .pointer (some q3996))] ∧ Rows (RSegment) 3 K4082 css4081 t4076) ?_ ?_
             ·refine ci rfl (fun hc4084 => ?_) (fun hc4084 => ?_)
              ·have hr4085 := if_p hc4084 hx4077
               obtain ⟨r4086, hx4087, hr4088⟩ := bd_some hr4085
               refine drG 11 mixed (by kernel_rfl) rfl (dt rfl (m1 rfl fin1) (dt rfl (ldA G68 Z68 rfl rfl (sS 5 rfl hK6) rfl fin1) (dt rfl (m1 rfl fin1) (dt rfl (m1 rfl fin1) ?_))))
               refine DF.und (α := Option Addr × Nat) (none, 0) (fun q => .slice q.1 r4086.length q.2) (fun (q : Option Addr × Nat) K => Sl (Flat encS) 1 K q.1 q.2 r4086) (fun _ _ _ h x => x.mono (Flat.mono _) h) (by kernel_rfl) rfl (fun a w K hS hA hF => TG.pa hS hA (clK C47 rfl rfl rfl rfl (fun w H hH le => w47 hH r_0 (RReport.mono _ _ _ _ (le.at 6 rfl) hh_r_0) s3851.2.1 (s2223.1 : Int) hx4087) (by
                 rintro v_ K4089 ⟨ad4090, cap4091, rfl, hl4092⟩
                 exact finU (f := fun q => .slice q.1 r4086.length q.2) (G := (fun (q : Option Addr × Nat) K => Sl (Flat encS) 1 K q.1 q.2 r4086)) (_, _) (fun _ _ _ h x => x.mono (Flat.mono _) h) hl4092))) ?_
               rintro ⟨ad4094, cap4095⟩
               refine dt rfl (ldA G68 Z68 rfl rfl (sS 5 rfl hK6) rfl fin1) (dt rfl (m1 rfl fin1) (dt rfl (m1 rfl fin1) ?_))
               refine DF.und (α := Option Addr × Nat) (none, 0) (fun q => .slice q.1 r4086.length q.2) (fun (q : Option Addr × Nat) K => Sl (Flat encS) 1 K q.1 q.2 r4086) (fun _ _ _ h x => x.mono (Flat.mono _) h) (by kernel_rfl) rfl (fun a w K hS hA hF => TG.pa hS hA (clK C47 rfl rfl rfl rfl (fun w H hH le => w47 hH r_0 (RReport.mono _ _ _ _ (le.at 6 rfl) hh_r_0) s3851.2.1 (s2223.1 : Int) hx4087) (by
                 rintro v_ K4096 ⟨ad4097, cap4098, rfl, hl4099⟩
                 exact finU (f := fun q => .slice q.1 r4086.length q.2) (G := (fun (q : Option Addr × Nat) K => Sl (Flat encS) 1 K q.1 q.2 r4086)) (_, _) (fun _ _ _ h x => x.mono (Flat.mono _) h) hl4099))) ?_
               rintro ⟨ad4101, cap4102⟩
               refine DF.und () (fun _ => .agg [.slice ad4094 r4086.length cap4095, .slice ad4101 r4086.length cap4102, .int .i64 (-1)].toArray) (fun _ K => Sl (Flat encS) 1 K ad4094 cap4095 r4086 ∧ Sl (Flat encS) 1 K ad4101 cap4102 r4086) (fun _ _ _ h x => ⟨x.1.mono (Flat.mono _) h, x.2.mono (Flat.mono _) h⟩) (by kernel_rfl) rfl (fun a w K hS hA hF => TG.pa hS hA (bu (cs := [.slice ad4094 r4086.length cap4095, .slice ad4101 r4086.length cap4102, .int .i64 (-1)]) T4.B108 rfl rfl rfl (finF (f := fun _ => .agg [.slice ad4094 r4086.length cap4095, .slice ad4101 r4086.length cap4102, .int .i64 (-1)].toArray) (G := fun _ K => Sl (Flat encS) 1 K ad4094 cap4095 r4086 ∧ Sl (Flat encS) 1 K ad4101 cap4102 r4086) () ⟨(hF.2.1 rfl), (hF.1 rfl)⟩))) fun _ => ?_
               refine DF.und (α := Option Addr × Nat) (none, 0) (fun q => .slice q.1 1 q.2) (fun (q : Option Addr × Nat) K => Sl (RSegment) 3 K q.1 q.2 ([(⟨r4086, r4086, (-1)⟩ : Segment)] : List Segment)) (fun _ _ _ h x => x.mono (RSegment.mono) h) (by kernel_rfl) rfl (fun a w K hS hA hF => TG.pa hS hA (bS (cs := [.slice ad4094 r4086.length cap4095, .slice ad4101 r4086.length cap4102, .int .i64 (-1)]) T4.E95 rfl rfl rfl rfl fun q4104 K4105 hq4106 hK4107 => by
                 refine TG.pack (fun K => Sl (RSegment) 3 K (some q4104) 1 ([(⟨r4086, r4086, (-1)⟩ : Segment)] : List Segment)) (fun H le => Sl.litR (css := [[.slice ad4094 r4086.length cap4095, .slice ad4101 r4086.length cap4102, .int .i64 (-1)]]) (l := ([(⟨r4086, r4086, (-1)⟩ : Segment)] : List Segment)) ⟨⟨rfl, rfl, ⟨_, _, _, _, rfl, ((hF.1 rfl).1.mono (Flat.mono _) (le.at 1 rfl)), ((hF.1 rfl).2.mono (Flat.mono _) (le.at 1 rfl))⟩⟩, tv⟩ hq4106 (hK4107.mono (le.at 0 rfl)) rfl) fun K4109 hl4108 => ?_
                 have := hl4108.len
                 refine sk1 ?_
                 exact finU (f := fun q => .slice q.1 1 q.2) (G := (fun (q : Option Addr × Nat) K => Sl (RSegment) 3 K q.1 q.2 ([(⟨r4086, r4086, (-1)⟩ : Segment)] : List Segment))) (_, _) (fun _ _ _ h x => x.mono (RSegment.mono) h) hl4108)) ?_
               rintro ⟨ad4111, cap4112⟩
               refine DF.nil fun K4113 hF => ?_
               obtain ⟨hu4110, hu4103, hu4100, hu4093, _⟩ := hF
               have := hu4093.len
               have := hu4100.len
               have := hu4110.len
               obtain ⟨hk4114, hr4115⟩ := chk_some hr4088
               have := lenA s3851.2.2 ([(⟨r4086, r4086, (-1)⟩ : Segment)] : List Segment)
               refine TG.pack (fun K => Sl (RSegment) 3 K ad4111 cap4112 ([(⟨r4086, r4086, (-1)⟩ : Segment)] : List Segment) ∧ Rows (RSegment) 3 K css3854 s3851.2.2) (fun H le => ⟨hu4110.mono (RSegment.mono) (le.at 0 rfl), hR3856.mono (RSegment.mono) (le.at 2 rfl)⟩) fun K4118 ⟨hm4119, hR4120⟩ => (apR 2 (l := s3851.2.2) (m := ([(⟨r4086, r4086, (-1)⟩ : Segment)] : List Segment)) T4.E95 rfl rfl rfl rfl rfl rfl hm4119 hR4120 RSegment.one rfl hk4114 fun ad4116 cap4117 css4122 hR4121 => (a1 rfl (on ?_)))
               cases hr4115
               intro a w hS hA
               exact ⟨ad4116, cap4117, css4122, K4118, hS.selH [0, 2, 3, 4, 5, 6, 7] rfl, hA.cut ⟨rfl, rfl, rfl, rfl, rfl, rfl, rfl, rfl, tv⟩, hR4121⟩
              ·have hr4123 := if_n hc4084 hx4077
               refine sk ?_
               cases hr4123
               intro a w hS hA
               exact ⟨ad3852, cap3853, css3854, K3855, hS.selH [1, 0, 1, 2, 3, 4, 5] rfl, hA.cut ⟨rfl, rfl, rfl, rfl, rfl, rfl, rfl, rfl, tv⟩, hR3856⟩
             ·rintro a w ⟨ad4079, cap4080, css4081, K4082, hS, hA, hR4083⟩
              refine TG.ap ?_ hS hA
              refine sq ?_
              obtain ⟨hk4124, hr4125⟩ := chk_some hr4078
              obtain ⟨r4126, hx4127, hr4128⟩ := bd_some hr4125
              refine drG 13 mixed (by kernel_rfl) rfl (dt rfl (m1 rfl fin1) (dt rfl (ldA G68 Z68 rfl rfl (sS 6 rfl hK6) rfl fin1) (dt rfl (m1 rfl fin1) (dt rfl (m1 rfl fin1) (dt rfl (fb 3 U73 rfl rfl rfl rfl Z3 fin1) (dt rfl (ld G3 rfl rfl (((sS 2 rfl hK3998).drop 3).take 1) rfl fin1) (dt rfl (adI rfl rfl rfl hk4124 fin1) ?_)))))))
              refine DF.und (α := Option Addr × Nat) (none, 0) (fun q => .slice q.1 r4126.length q.2) (fun (q : Option Addr × Nat) K => Sl (Flat encS) 1 K q.1 q.2 r4126) (fun _ _ _ h x => x.mono (Flat.mono _) h) (by kernel_rfl) rfl (fun a w K hS hA hF => TG.pa hS hA (clK C47 rfl rfl rfl rfl (fun w H hH le => w47 hH r_0 (RReport.mono _ _ _ _ (le.at 7 rfl) hh_r_0) (s2223.1 : Int) ((s2223.1 : Int) + x3984.cut) hx4127) (by
                rintro v_ K4129 ⟨ad4130, cap4131, rfl, hl4132⟩
                exact finU (f := fun q => .slice q.1 r4126.length q.2) (G := (fun (q : Option Addr × Nat) K => Sl (Flat encS) 1 K q.1 q.2 r4126)) (_, _) (fun _ _ _ h x => x.mono (Flat.mono _) h) hl4132))) ?_
              rintro ⟨ad4134, cap4135⟩
              refine dt rfl (fb 4 U73 rfl rfl rfl rfl Z24 fin1) (dt rfl (ld G24 rfl rfl ((sS 2 rfl hK3998).drop 4) rfl fin1) (dt rfl (m1 rfl fin1) (DF.und () (fun _ => .agg [.slice ad4134 r4126.length cap4135, .slice ad3993 x3984.put_.length cap3994, .int .i64 (s3851.1 : Int)].toArray) (fun _ K => Sl (Flat encS) 1 K ad4134 cap4135 r4126) (fun _ _ _ h x => x.mono (Flat.mono _) h) (by kernel_rfl) rfl (fun a w K hS hA hF => TG.pa hS hA (bu (cs := [.slice ad4134 r4126.length cap4135, .slice ad3993 x3984.put_.length cap3994, .int .i64 (s3851.1 : Int)]) T4.B108 rfl rfl rfl (finF (f := fun _ => .agg [.slice ad4134 r4126.length cap4135, .slice ad3993 x3984.put_.length cap3994, .int .i64 (s3851.1 : Int)].toArray) (G := fun _ K => Sl (Flat encS) 1 K ad4134 cap4135 r4126) () (hF.1 rfl)))) fun _ => ?_)))
              refine DF.und (α := Option Addr × Nat) (none, 0) (fun q => .slice q.1 1 q.2) (fun (q : Option Addr × Nat) K => Sl (RSegment) 3 K q.1 q.2 ([(⟨r4126, x3984.put_, (s3851.1 : Int)⟩ : Segment)] : List Segment)) (fun _ _ _ h x => x.mono (RSegment.mono) h) (by kernel_rfl) rfl (fun a w K hS hA hF => TG.pa hS hA (bS (cs := [.slice ad4134 r4126.length cap4135, .slice ad3993 x3984.put_.length cap3994, .int .i64 (s3851.1 : Int)]) T4.E95 rfl rfl rfl rfl fun q4137 K4138 hq4139 hK4140 => by
                refine TG.pack (fun K => Sl (RSegment) 3 K (some q4137) 1 ([(⟨r4126, x3984.put_, (s3851.1 : Int)⟩ : Segment)] : List Segment)) (fun H le => Sl.litR (css := [[.slice ad4134 r4126.length cap4135, .slice ad3993 x3984.put_.length cap3994, .int .i64 (s3851.1 : Int)]]) (l := ([(⟨r4126, x3984.put_, (s3851.1 : Int)⟩ : Segment)] : List Segment)) ⟨⟨rfl, rfl, ⟨_, _, _, _, rfl, ((hF.1 rfl).mono (Flat.mono _) (le.at 1 rfl)), (hl3995.mono (Flat.mono _) (le.at 8 rfl))⟩⟩, tv⟩ hq4139 (hK4140.mono (le.at 0 rfl)) rfl) fun K4142 hl4141 => ?_
                have := hl4141.len
                refine sk1 ?_
                exact finU (f := fun q => .slice q.1 1 q.2) (G := (fun (q : Option Addr × Nat) K => Sl (RSegment) 3 K q.1 q.2 ([(⟨r4126, x3984.put_, (s3851.1 : Int)⟩ : Segment)] : List Segment))) (_, _) (fun _ _ _ h x => x.mono (RSegment.mono) h) hl4141)) ?_
              rintro ⟨ad4144, cap4145⟩
              refine DF.nil fun K4146 hF => ?_
              obtain ⟨hu4143, hu4136, hu4133, _⟩ := hF
              have := hu4133.len
              have := hu4143.len
              obtain ⟨hk4147, hr4148⟩ := chk_some hr4128
              have := lenA t4076 ([(⟨r4126, x3984.put_, (s3851.1 : Int)⟩ : Segment)] : List Segment)
              refine TG.pack (fun K => Sl (RSegment) 3 K ad4144 cap4145 ([(⟨r4126, x3984.put_, (s3851.1 : Int)⟩ : Segment)] : List Segment) ∧ Rows (RSegment) 3 K css4081 t4076) (fun H le => ⟨hu4143.mono (RSegment.mono) (le.at 0 rfl), hR4083.mono (RSegment.mono) (le.at 1 rfl)⟩) fun K4151 ⟨hm4152, hR4153⟩ => (apR 2 (l := t4076) (m := ([(⟨r4126, x3984.put_, (s3851.1 : Int)⟩ : Segment)] : List Segment)) T4.E95 rfl rfl rfl rfl rfl rfl hm4152 hR4153 RSegment.one rfl hk4147 fun ad4149 cap4150 css4155 hR4154 => (a1 rfl (on (rg (m1 rfl (fb 3 U73 rfl rfl rfl rfl Z3 (ld G3 rfl rfl (((sS 3 rfl hK3998).drop 3).take 1) rfl (adI rfl rfl rfl hk4124 (a1 rfl (on ?_))))))))))
              cases hr4148
              intro a w hS hA
              exact ⟨ad4149, cap4150, css4155, K4151, hS.selH [0, 4, 5, 6, 7, 8] rfl, hA.cut ⟨rfl, rfl, rfl, rfl, rfl, rfl, rfl, rfl, tv⟩, hR4154⟩
          ·rintro a w ⟨ad3979, cap3980, css3981, K3982, hS, hA, hR3983⟩
           refine TG.ap ?_ hS hA
           refine rg (m1 rfl (adI rfl rfl rfl (by omega) (a1 rfl (on ?_))))
           cases hr3978
           intro a w hS hA
           exact ⟨_, hz3858, ad3979, cap3980, css3981, K3982, hS.selH [0, 2, 3, 4, 5] rfl, hA.cut ⟨rfl, rfl, rfl, rfl, rfl, rfl, rfl, rfl, tv⟩, hR3983⟩
         ·have hr4156 := if_n hc3863 hr3857
          refine xt rfl ?_
          cases hr4156
          obtain rfl := Fin.out hz3858
          intro a w hS hA
          exact ⟨ad3852, cap3853, css3854, K3855, hS, hA.cut ⟨rfl, rfl, rfl, rfl, rfl, rfl, rfl, tv⟩, hR3856⟩
       ·rintro a w ⟨ad3846, cap3847, css3848, K3849, hS, hA, hR3850⟩
        refine TG.ap ?_ hS hA
        refine rg (m1 rfl (adI rfl rfl rfl (by omega) (a1 rfl (on ?_))))
        cases hr3845
        intro a w hS hA
        exact ⟨_, hz3326, ad3846, cap3847, css3848, K3849, hS.selH [0, 2, 3, 4] rfl, hA.cut ⟨rfl, rfl, rfl, rfl, rfl, rfl, rfl, tv⟩, hR3850⟩
      ·have hr4157 := if_n hc3331 hr3325
       refine xt rfl ?_
       cases hr4157
       obtain rfl := Fin.out hz3326
       intro a w hS hA
       exact ⟨ad3320, cap3321, css3322, K3323, hS, hA.cut ⟨rfl, rfl, rfl, rfl, rfl, rfl, tv⟩, hR3324⟩
    ·rintro a w ⟨ad3314, cap3315, css3316, K3317, hS, hA, hR3318⟩
     refine TG.ap ?_ hS hA
     refine rg (m1 rfl ?_)
     obtain ⟨hk4158, hr4159⟩ := chk_some hr3313
     refine adI rfl rfl rfl hk4158 (a1 rfl (on ?_))
     cases hr4159
     intro a w hS hA
     exact ⟨_, hz2230, ad3314, cap3315, css3316, K3317, hS.selH [0, 2, 3] rfl, hA.cut ⟨rfl, rfl, rfl, rfl, rfl, rfl, tv⟩, hR3318⟩
   ·have hr4160 := if_n hc2235 hr2229
    refine xt rfl ?_
    cases hr4160
    obtain rfl := Fin.out hz2230
    intro a w hS hA
    exact ⟨ad2224, cap2225, css2226, K2227, hS, hA.cut ⟨rfl, rfl, rfl, tv⟩, hR2228⟩
 ·rintro a w ⟨ad2218, cap2219, css2220, K2221, hS, hA, hR2222⟩
  refine TG.ap ?_ hS hA
  refine sq (sq (rg (m1 rfl (fb 0 U68 rfl rfl rfl rfl Z66 (ld G66 rfl rfl ((sS 1 rfl hK6).take 1) rfl (lnL U66 rfl rfl (ltI rfl rfl rfl (on ?_))))))))
  obtain ⟨t4201, hx4202, hr4203⟩ := bd_some hr2217
  refine jn (fun a w => ∃ (ad4204 : Option Addr) (cap4205 : Nat) (css4206 : List (List Value)) (K4207 : Hp), St M W H [K4207, K2221, K5, H] [(2, Own.rows ad4204 cap4205 108 3 css4206 t4201)] w ∧ Has [] 107 a [(7, .slice ad4204 t4201.length cap4205)] ∧ Rows (RSegment) 3 K4207 css4206 t4201) ?_ ?_
  ·refine ci rfl (fun hc4209 => ?_) (fun hc4209 => ?_)
   ·have hr4210 := if_p hc4209 hx4202
    obtain ⟨r4211, hx4212, hr4213⟩ := bd_some hr4210
    refine drG 15 mixed (by kernel_rfl) rfl (dt rfl (m1 rfl fin1) (dt rfl (ldA G68 Z68 rfl rfl (sS 2 rfl hK6) rfl fin1) (dt rfl (m1 rfl fin1) (dt rfl (fb 0 U68 rfl rfl rfl rfl Z66 fin1) (dt rfl (ld G66 rfl rfl ((sS 2 rfl hK6).take 1) rfl fin1) (dt rfl (lnL U66 rfl rfl fin1) ?_))))))
    refine DF.und (α := Option Addr × Nat) (none, 0) (fun q => .slice q.1 r4211.length q.2) (fun (q : Option Addr × Nat) K => Sl (Flat encS) 1 K q.1 q.2 r4211) (fun _ _ _ h x => x.mono (Flat.mono _) h) (by kernel_rfl) rfl (fun a w K hS hA hF => TG.pa hS hA (clK C47 rfl rfl rfl rfl (fun w H hH le => w47 hH r_0 (RReport.mono _ _ _ _ (le.at 3 rfl) hh_r_0) e2215.1 (r_0.words.length : Int) hx4212) (by
      rintro v_ K4214 ⟨ad4215, cap4216, rfl, hl4217⟩
      exact finU (f := fun q => .slice q.1 r4211.length q.2) (G := (fun (q : Option Addr × Nat) K => Sl (Flat encS) 1 K q.1 q.2 r4211)) (_, _) (fun _ _ _ h x => x.mono (Flat.mono _) h) hl4217))) ?_
    rintro ⟨ad4219, cap4220⟩
    refine dt rfl (ldA G68 Z68 rfl rfl (sS 2 rfl hK6) rfl fin1) (dt rfl (m1 rfl fin1) (dt rfl (fb 0 U68 rfl rfl rfl rfl Z66 fin1) (dt rfl (ld G66 rfl rfl ((sS 2 rfl hK6).take 1) rfl fin1) (dt rfl (lnL U66 rfl rfl fin1) ?_))))
    refine DF.und (α := Option Addr × Nat) (none, 0) (fun q => .slice q.1 r4211.length q.2) (fun (q : Option Addr × Nat) K => Sl (Flat encS) 1 K q.1 q.2 r4211) (fun _ _ _ h x => x.mono (Flat.mono _) h) (by kernel_rfl) rfl (fun a w K hS hA hF => TG.pa hS hA (clK C47 rfl rfl rfl rfl (fun w H hH le => w47 hH r_0 (RReport.mono _ _ _ _ (le.at 3 rfl) hh_r_0) e2215.1 (r_0.words.length : Int) hx4212) (by
      rintro v_ K4221 ⟨ad4222, cap4223, rfl, hl4224⟩
      exact finU (f := fun q => .slice q.1 r4211.length q.2) (G := (fun (q : Option Addr × Nat) K => Sl (Flat encS) 1 K q.1 q.2 r4211)) (_, _) (fun _ _ _ h x => x.mono (Flat.mono _) h) hl4224))) ?_
    rintro ⟨ad4226, cap4227⟩
    refine DF.und () (fun _ => .agg [.slice ad4219 r4211.length cap4220, .slice ad4226 r4211.length cap4227, .int .i64 (-1)].toArray) (fun _ K => Sl (Flat encS) 1 K ad4219 cap4220 r4211 ∧ Sl (Flat encS) 1 K ad4226 cap4227 r4211) (fun _ _ _ h x => ⟨x.1.mono (Flat.mono _) h, x.2.mono (Flat.mono _) h⟩) (by kernel_rfl) rfl (fun a w K hS hA hF => TG.pa hS hA (bu (cs := [.slice ad4219 r4211.length cap4220, .slice ad4226 r4211.length cap4227, .int .i64 (-1)]) T4.B108 rfl rfl rfl (finF (f := fun _ => .agg [.slice ad4219 r4211.length cap4220, .slice ad4226 r4211.length cap4227, .int .i64 (-1)].toArray) (G := fun _ K => Sl (Flat encS) 1 K ad4219 cap4220 r4211 ∧ Sl (Flat encS) 1 K ad4226 cap4227 r4211) () ⟨(hF.2.1 rfl), (hF.1 rfl)⟩))) fun _ => ?_
    refine DF.und (α := Option Addr × Nat) (none, 0) (fun q => .slice q.1 1 q.2) (fun (q : Option Addr × Nat) K => Sl (RSegment) 3 K q.1 q.2 ([(⟨r4211, r4211, (-1)⟩ : Segment)] : List Segment)) (fun _ _ _ h x => x.mono (RSegment.mono) h) (by kernel_rfl) rfl (fun a w K hS hA hF => TG.pa hS hA (bS (cs := [.slice ad4219 r4211.length cap4220, .slice ad4226 r4211.length cap4227, .int .i64 (-1)]) T4.E95 rfl rfl rfl rfl fun q4229 K4230 hq4231 hK4232 => by
      refine TG.pack (fun K => Sl (RSegment) 3 K (some q4229) 1 ([(⟨r4211, r4211, (-1)⟩ : Segment)] : List Segment)) (fun H le => Sl.litR (css := [[.slice ad4219 r4211.length cap4220, .slice ad4226 r4211.length cap4227, .int .i64 (-1)]]) (l := ([(⟨r4211, r4211, (-1)⟩ : Segment)] : List Segment)) ⟨⟨rfl, rfl, ⟨_, _, _, _, rfl, ((hF.1 rfl).1.mono (Flat.mono _) (le.at 1 rfl)), ((hF.1 rfl).2.mono (Flat.mono _) (le.at 1 rfl))⟩⟩, tv⟩ hq4231 (hK4232.mono (le.at 0 rfl)) rfl) fun K4234 hl4233 => ?_
      have := hl4233.len
      refine sk1 ?_
      exact finU (f := fun q => .slice q.1 1 q.2) (G := (fun (q : Option Addr × Nat) K => Sl (RSegment) 3 K q.1 q.2 ([(⟨r4211, r4211, (-1)⟩ : Segment)] : List Segment))) (_, _) (fun _ _ _ h x => x.mono (RSegment.mono) h) hl4233)) ?_
    rintro ⟨ad4236, cap4237⟩
    refine DF.nil fun K4238 hF => ?_
    obtain ⟨hu4235, hu4228, hu4225, hu4218, _⟩ := hF
    have := hu4218.len
    have := hu4225.len
    have := hu4235.len
    obtain ⟨hk4239, hr4240⟩ := chk_some hr4213
    have := lenA e2215.2 ([(⟨r4211, r4211, (-1)⟩ : Segment)] : List Segment)
    refine TG.pack (fun K => Sl (RSegment) 3 K ad4236 cap4237 ([(⟨r4211, r4211, (-1)⟩ : Segment)] : List Segment) ∧ Rows (RSegment) 3 K css2220 e2215.2) (fun H le => ⟨hu4235.mono (RSegment.mono) (le.at 0 rfl), hR2222.mono (RSegment.mono) (le.at 1 rfl)⟩) fun K4243 ⟨hm4244, hR4245⟩ => (apR 2 (l := e2215.2) (m := ([(⟨r4211, r4211, (-1)⟩ : Segment)] : List Segment)) T4.E95 rfl rfl rfl rfl rfl rfl hm4244 hR4245 RSegment.one rfl hk4239 fun ad4241 cap4242 css4247 hR4246 => (a1 rfl (on ?_)))
    cases hr4240
    intro a w hS hA
    exact ⟨ad4241, cap4242, css4247, K4243, hS.selH [0, 2, 3, 4] rfl, hA.cut ⟨rfl, tv⟩, hR4246⟩
   ·have hr4248 := if_n hc4209 hx4202
    refine sk ?_
    cases hr4248
    intro a w hS hA
    exact ⟨ad2218, cap2219, css2220, K2221, hS.selH [0, 0, 1, 2] rfl, hA.cut ⟨rfl, tv⟩, hR2222⟩
  ·rintro a w ⟨ad4204, cap4205, css4206, K4207, hS, hA, hR4208⟩
   refine TG.ap ?_ hS hA
   refine sq (rg (m1 rfl (a1 rfl (on (rt_ ?_)))))
   cases hr4203
   intro a w hS hA
   refine ret1 hA rfl rfl ?_
   exact ⟨⟨_, _, rfl, (hS.rowsOut 2 rfl 0 rfl (RSegment.mono) hR4208)⟩, hS.ext⟩

theorem w46 {M : Prop} {W : World} {H : Hp} (hH : H.le (hp W)) {ad_a_0 : Option Addr} {cap_a_0 : Nat} {a_0 : List Bytes} (h_a_0 : Sl (Flat encS) 1 H ad_a_0 cap_a_0 a_0) {ad_b_1 : Option Addr} {cap_b_1 : Nat} {b_1 : List Bytes} (h_b_1 : Sl (Flat encS) 1 H ad_b_1 cap_b_1 b_1) {r : Bool} (hr : m46 a_0 b_1 = some r) : Calls Tryz.prog 46 [.slice ad_a_0 a_0.length cap_a_0, .slice ad_b_1 b_1.length cap_b_1].toArray W (RetS M W (.bool r)) := by
 have := h_a_0.len
 have := h_b_1.len
 unfold m46 at hr
 refine enterG (M := M) Tryz.func46 rfl Tryz.ntmps46 rfl hH ?_
 refine sq (rg (a1 rfl (on (sq (sq (rg (m1 rfl (lnL U24 rfl rfl (m1 rfl (lnL U24 rfl rfl (neI rfl rfl rfl ?_)))))))))))
 refine on ?_
 refine ci rfl (fun hc4 => ?_) (fun hc4 => ?_)
 ·have hr5 := if_p hc4 hr
  refine sq (rg (a1 rfl (on (rt_ ?_))))
  cases hr5
  intro a w hS hA
  refine ret1 hA rfl rfl ?_
  exact ⟨rfl, hS.ext⟩
 ·have hr6 := if_n hc4 hr
  refine sk (sq (sq (rg (a1 rfl (on ?_)))))
  obtain ⟨e31, hl32, hr33⟩ := bd_some hr6
  refine jn (fun a w => ∃ t34, e31 = .inl t34 ∧ St M W H [H] [] w ∧ Has [] 26 a []) ?_ ?_
  ·refine bk ?_
   refine lp hl32 (fun s35 a w => St M W H [H] [] w ∧ Has [] 26 a [(0, .slice ad_a_0 a_0.length cap_a_0), (1, .slice ad_b_1 b_1.length cap_b_1), (5, .int .i64 (s35 : Int))]) ?_ ?_
   ·exact cu ⟨rfl, rfl, rfl, tv⟩
   ·rintro j s35 y38 hr36 hz37 a w ⟨hS, hA⟩
    refine TG.ap ?_ hS hA
    unfold m46_1 at hr36
    refine sq (sq (rg (m1 rfl (m1 rfl (lnL U24 rfl rfl (ltI rfl rfl rfl (on ?_)))))))
    refine ci rfl (fun hc42 => ?_) (fun hc42 => ?_)
    ·have hr43 := if_p hc42 hr36
     refine sk (sq (bk (sq ?_)))
     obtain ⟨x64, hx65, hr66⟩ := bd_some hr43
     obtain ⟨p67, rfl⟩ := h_a_0.adr hx65
     obtain ⟨cs68, hcs69, hq70, hr71⟩ := h_a_0.at hx65
     obtain rfl := hr71
     obtain ⟨x72, hx73, hr74⟩ := bd_some hr66
     obtain ⟨p75, rfl⟩ := h_b_1.adr hx73
     obtain ⟨cs76, hcs77, hq78, hr79⟩ := h_b_1.at hx73
     obtain rfl := hr79
     refine drG 8 mixed (by kernel_rfl) rfl (dt rfl (m1 rfl fin1) (dt rfl (m1 rfl fin1) (dt rfl (iaP U24 Z9 rfl rfl rfl rfl (lt_of hx65) fin1) (dt rfl (ld G9 rfl rfl (sS 1 rfl hq70) rfl fin1) (dt rfl (m1 rfl fin1) (dt rfl (m1 rfl fin1) (dt rfl (iaP U24 Z9 rfl rfl rfl rfl (lt_of hx73) fin1) (dt rfl (ld G9 rfl rfl (sS 1 rfl hq78) rfl fin1) (DF.nil fun K80 hF => (neS rfl rfl rfl (on ?_)))))))))))
     refine ci rfl (fun hc84 => ?_) (fun hc84 => ?_)
     ·have hr85 := if_p hc84 hr74
      refine sq (rg (a1 rfl (on (rt_ ?_))))
      cases hr85
      obtain rfl := Fin.out hz37
      cases hr33
      intro a w hS hA
      refine ret1 hA rfl rfl ?_
      exact ⟨rfl, hS.ext⟩
     ·have hr86 := if_n hc84 hr74
      refine sk (rg (m1 rfl (adI rfl rfl rfl (by omega) (a1 rfl (on ?_)))))
      cases hr86
      intro a w hS hA
      exact ⟨_, hz37, hS.selH [1] rfl, hA.cut ⟨rfl, rfl, rfl, tv⟩⟩
    ·have hr87 := if_n hc42 hr36
     refine xt rfl ?_
     cases hr87
     obtain rfl := Fin.out hz37
     intro a w hS hA
     exact ⟨_, rfl, hS, hA.cut tv⟩
  ·rintro a w ⟨t34, rfl, hS, hA⟩
   refine TG.ap ?_ hS hA
   refine sq (rg (a1 rfl (on (rt_ ?_))))
   cases hr33
   intro a w hS hA
   refine ret1 hA rfl rfl ?_
   exact ⟨rfl, hS.ext⟩

theorem w43 {M : Prop} {W : World} {H : Hp} (hH : H.le (hp W)) {ad_a_0 : Option Addr} {cap_a_0 : Nat} {a_0 : List Segment} (h_a_0 : Sl (RSegment) 3 H ad_a_0 cap_a_0 a_0) {ad_b_1 : Option Addr} {cap_b_1 : Nat} {b_1 : List Segment} (h_b_1 : Sl (RSegment) 3 H ad_b_1 cap_b_1 b_1) {r : Bool} (hr : m43 a_0 b_1 = some r) : Calls Tryz.prog 43 [.slice ad_a_0 a_0.length cap_a_0, .slice ad_b_1 b_1.length cap_b_1].toArray W (RetS M W (.bool r)) := by
 have := h_a_0.len
 have := h_b_1.len
 unfold m43 at hr
 refine enterG (M := M) Tryz.func43 rfl Tryz.ntmps43 rfl hH ?_
 refine sq (rg (a1 rfl (on (sq (sq (rg (m1 rfl (lnL U91 rfl rfl (m1 rfl (lnL U95 rfl rfl (neI rfl rfl rfl ?_)))))))))))
 refine on ?_
 refine ci rfl (fun hc4 => ?_) (fun hc4 => ?_)
 ·have hr5 := if_p hc4 hr
  refine sq (rg (a1 rfl (on (rt_ ?_))))
  cases hr5
  intro a w hS hA
  refine ret1 hA rfl rfl ?_
  exact ⟨rfl, hS.ext⟩
 ·have hr6 := if_n hc4 hr
  refine sk (sq (sq (rg (a1 rfl (on ?_)))))
  obtain ⟨e60, hl61, hr62⟩ := bd_some hr6
  refine jn (fun a w => ∃ t63, e60 = .inl t63 ∧ St M W H [H] [] w ∧ Has [] 56 a []) ?_ ?_
  ·refine bk ?_
   refine lp hl61 (fun s64 a w => St M W H [H] [] w ∧ Has [] 56 a [(0, .slice ad_a_0 a_0.length cap_a_0), (1, .slice ad_b_1 b_1.length cap_b_1), (5, .int .i64 (s64 : Int))]) ?_ ?_
   ·exact cu ⟨rfl, rfl, rfl, tv⟩
   ·rintro j s64 y67 hr65 hz66 a w ⟨hS, hA⟩
    refine TG.ap ?_ hS hA
    unfold m43_1 at hr65
    refine sq (sq (rg (m1 rfl (m1 rfl (lnL U91 rfl rfl (ltI rfl rfl rfl (on ?_)))))))
    refine ci rfl (fun hc71 => ?_) (fun hc71 => ?_)
    ·have hr72 := if_p hc71 hr65
     refine sk (sq (bk (sq ?_)))
     obtain ⟨t167, hx168, hr169⟩ := bd_some hr72
     refine jn (fun a w => St M W H [H] [] w ∧ Has [] 56 a [(0, .slice ad_a_0 a_0.length cap_a_0), (1, .slice ad_b_1 b_1.length cap_b_1), (5, .int .i64 (s64 : Int)), (55, .bool t167)]) ?_ ?_
     ·obtain ⟨x170, hx171, hr172⟩ := bd_some hx168
      obtain ⟨p173, rfl⟩ := h_a_0.adr hx171
      obtain ⟨cs174, hcs175, hq176, hr177⟩ := h_a_0.at hx171
      have hr178 := hr177
      obtain ⟨ad179, cap180, ad182, cap183, rfl, hl181, hl184⟩ := hr177
      have := hl181.len
      have := hl184.len
      obtain ⟨x185, hx186, hr187⟩ := bd_some hr172
      obtain ⟨p188, rfl⟩ := h_b_1.adr hx186
      obtain ⟨cs189, hcs190, hq191, hr192⟩ := h_b_1.at hx186
      have hr193 := hr192
      obtain ⟨ad194, cap195, ad197, cap198, rfl, hl196, hl199⟩ := hr192
      have := hl196.len
      have := hl199.len
      obtain ⟨r200, hx201, hr202⟩ := bd_some hr187
      rcases Bool.eq_false_or_eq_true (r200) with hb203 | hb203
      ·have hr204 := if_p hb203 hr202
       obtain ⟨r205, hx206, hr207⟩ := bd_some hr204
       rcases Bool.eq_false_or_eq_true (r205) with hb208 | hb208
       ·have hr209 := if_p hb208 hr207
        refine drG 37 mixed (by kernel_rfl) rfl (dt rfl (m1 rfl fin1) (dt rfl (m1 rfl fin1) (dt rfl (iaP U91 Z98 rfl rfl rfl rfl (lt_of hx171) fin1) (dt rfl (fb 0 U98 rfl rfl rfl rfl Z24 fin1) (dt rfl (ld G24 rfl rfl ((sS 1 rfl hq176).take 1) rfl fin1) (dt rfl (m1 rfl fin1) (dt rfl (m1 rfl fin1) (dt rfl (iaP U95 Z108 rfl rfl rfl rfl (lt_of hx186) fin1) (dt rfl (fb 0 U108 rfl rfl rfl rfl Z24 fin1) (dt rfl (ld G24 rfl rfl ((sS 1 rfl hq191).take 1) rfl fin1) (dt rfl (clS C46 rfl rfl rfl rfl (fun w H hH le => w46 hH (hl181.mono (Flat.mono _) (le.at 1 rfl)) (hl196.mono (Flat.mono _) (le.at 1 rfl)) hx201) fin1) ?_)))))))))))
        refine dt rfl (nt rfl rfl fin1) (dt rfl (m1 rfl fin1) (dt rfl (gN rfl rfl (congrArg not (hb203)) (m1 rfl fin1)) (dt rfl (gN rfl rfl (congrArg not (hb203)) (m1 rfl fin1)) (dt rfl (gN rfl rfl (congrArg not (hb203)) (iaP U91 Z98 rfl rfl rfl rfl (lt_of hx171) fin1)) (dt rfl (gN rfl rfl (congrArg not (hb203)) (fb 1 U98 rfl rfl rfl rfl Z24 fin1)) (dt rfl (gN rfl rfl (congrArg not (hb203)) (ld G24 rfl rfl (((sS 1 rfl hq176).drop 1).take 1) rfl fin1)) (dt rfl (gN rfl rfl (congrArg not (hb203)) (m1 rfl fin1)) (dt rfl (gN rfl rfl (congrArg not (hb203)) (m1 rfl fin1)) (dt rfl (gN rfl rfl (congrArg not (hb203)) (iaP U95 Z108 rfl rfl rfl rfl (lt_of hx186) fin1)) (dt rfl (gN rfl rfl (congrArg not (hb203)) (fb 1 U108 rfl rfl rfl rfl Z24 fin1)) (dt rfl (gN rfl rfl (congrArg not (hb203)) (ld G24 rfl rfl (((sS 1 rfl hq191).drop 1).take 1) rfl fin1)) ?_)))))))))))
        refine dt rfl (gN rfl rfl (congrArg not (hb203)) (clS C46 rfl rfl rfl rfl (fun w H hH le => w46 hH (hl184.mono (Flat.mono _) (le.at 1 rfl)) (hl199.mono (Flat.mono _) (le.at 1 rfl)) hx206) fin1)) (dt rfl (gN rfl rfl (congrArg not (hb203)) (nt rfl rfl fin1)) (dt rfl (pF rfl rfl (congrArg not (hb203)) rfl fin1) (dt rfl (m1 rfl fin1) (dt rfl (gN rfl rfl (congrArg not (hb208)) (m1 rfl fin1)) (dt rfl (gN rfl rfl (congrArg not (hb208)) (m1 rfl fin1)) (dt rfl (gN rfl rfl (congrArg not (hb208)) (iaP U91 Z98 rfl rfl rfl rfl (lt_of hx171) fin1)) (dt rfl (gN rfl rfl (congrArg not (hb208)) (fb 2 U98 rfl rfl rfl rfl Z3 fin1)) (dt rfl (gN rfl rfl (congrArg not (hb208)) (ld G3 rfl rfl ((sS 1 rfl hq176).drop 2) rfl fin1)) (dt rfl (gN rfl rfl (congrArg not (hb208)) (m1 rfl fin1)) (dt rfl (gN rfl rfl (congrArg not (hb208)) (m1 rfl fin1)) (dt rfl (gN rfl rfl (congrArg not (hb208)) (iaP U95 Z108 rfl rfl rfl rfl (lt_of hx186) fin1)) ?_)))))))))))
        refine dt rfl (gN rfl rfl (congrArg not (hb208)) (fb 2 U108 rfl rfl rfl rfl Z3 fin1)) (dt rfl (gN rfl rfl (congrArg not (hb208)) (ld G3 rfl rfl ((sS 1 rfl hq191).drop 2) rfl fin1)) (DF.nil fun K210 hF => (gN rfl rfl (congrArg not (hb208)) (neI rfl rfl rfl (pF rfl rfl (congrArg not (hb208)) rfl (on ?_))))))
        cases hr209
        intro a w hS hA
        exact ⟨hS.selH [1] rfl, hA.cut ⟨rfl, rfl, rfl, rfl, tv⟩⟩
       ·have hr211 := if_f hb208 hr207
        refine drG 37 mixed (by kernel_rfl) rfl (dt rfl (m1 rfl fin1) (dt rfl (m1 rfl fin1) (dt rfl (iaP U91 Z98 rfl rfl rfl rfl (lt_of hx171) fin1) (dt rfl (fb 0 U98 rfl rfl rfl rfl Z24 fin1) (dt rfl (ld G24 rfl rfl ((sS 1 rfl hq176).take 1) rfl fin1) (dt rfl (m1 rfl fin1) (dt rfl (m1 rfl fin1) (dt rfl (iaP U95 Z108 rfl rfl rfl rfl (lt_of hx186) fin1) (dt rfl (fb 0 U108 rfl rfl rfl rfl Z24 fin1) (dt rfl (ld G24 rfl rfl ((sS 1 rfl hq191).take 1) rfl fin1) (dt rfl (clS C46 rfl rfl rfl rfl (fun w H hH le => w46 hH (hl181.mono (Flat.mono _) (le.at 1 rfl)) (hl196.mono (Flat.mono _) (le.at 1 rfl)) hx201) fin1) ?_)))))))))))
        refine dt rfl (nt rfl rfl fin1) (dt rfl (m1 rfl fin1) (dt rfl (gN rfl rfl (congrArg not (hb203)) (m1 rfl fin1)) (dt rfl (gN rfl rfl (congrArg not (hb203)) (m1 rfl fin1)) (dt rfl (gN rfl rfl (congrArg not (hb203)) (iaP U91 Z98 rfl rfl rfl rfl (lt_of hx171) fin1)) (dt rfl (gN rfl rfl (congrArg not (hb203)) (fb 1 U98 rfl rfl rfl rfl Z24 fin1)) (dt rfl (gN rfl rfl (congrArg not (hb203)) (ld G24 rfl rfl (((sS 1 rfl hq176).drop 1).take 1) rfl fin1)) (dt rfl (gN rfl rfl (congrArg not (hb203)) (m1 rfl fin1)) (dt rfl (gN rfl rfl (congrArg not (hb203)) (m1 rfl fin1)) (dt rfl (gN rfl rfl (congrArg not (hb203)) (iaP U95 Z108 rfl rfl rfl rfl (lt_of hx186) fin1)) (dt rfl (gN rfl rfl (congrArg not (hb203)) (fb 1 U108 rfl rfl rfl rfl Z24 fin1)) (dt rfl (gN rfl rfl (congrArg not (hb203)) (ld G24 rfl rfl (((sS 1 rfl hq191).drop 1).take 1) rfl fin1)) ?_)))))))))))
        refine dt rfl (gN rfl rfl (congrArg not (hb203)) (clS C46 rfl rfl rfl rfl (fun w H hH le => w46 hH (hl184.mono (Flat.mono _) (le.at 1 rfl)) (hl199.mono (Flat.mono _) (le.at 1 rfl)) hx206) fin1)) (dt rfl (gN rfl rfl (congrArg not (hb203)) (nt rfl rfl fin1)) (dt rfl (pF rfl rfl (congrArg not (hb203)) rfl fin1) (dt rfl (m1 rfl fin1) (dt rfl (gF rfl rfl (congrArg not (hb208)) rfl fin1) (dt rfl (gF rfl rfl (congrArg not (hb208)) rfl fin1) (dt rfl (gF rfl rfl (congrArg not (hb208)) rfl fin1) (dt rfl (gF rfl rfl (congrArg not (hb208)) rfl fin1) (dt rfl (gF rfl rfl (congrArg not (hb208)) rfl fin1) (dt rfl (gF rfl rfl (congrArg not (hb208)) rfl fin1) (dt rfl (gF rfl rfl (congrArg not (hb208)) rfl fin1) (dt rfl (gF rfl rfl (congrArg not (hb208)) rfl fin1) ?_)))))))))))
        refine dt rfl (gF rfl rfl (congrArg not (hb208)) rfl fin1) (dt rfl (gF rfl rfl (congrArg not (hb208)) rfl fin1) (DF.nil fun K212 hF => (gF rfl rfl (congrArg not (hb208)) rfl (pT rfl rfl (congrArg not (hb208)) rfl (on ?_)))))
        cases hr211
        intro a w hS hA
        exact ⟨hS.selH [1] rfl, hA.cut ⟨rfl, rfl, rfl, rfl, tv⟩⟩
      ·have hr213 := if_f hb203 hr202
       refine drG 37 mixed (by kernel_rfl) rfl (dt rfl (m1 rfl fin1) (dt rfl (m1 rfl fin1) (dt rfl (iaP U91 Z98 rfl rfl rfl rfl (lt_of hx171) fin1) (dt rfl (fb 0 U98 rfl rfl rfl rfl Z24 fin1) (dt rfl (ld G24 rfl rfl ((sS 1 rfl hq176).take 1) rfl fin1) (dt rfl (m1 rfl fin1) (dt rfl (m1 rfl fin1) (dt rfl (iaP U95 Z108 rfl rfl rfl rfl (lt_of hx186) fin1) (dt rfl (fb 0 U108 rfl rfl rfl rfl Z24 fin1) (dt rfl (ld G24 rfl rfl ((sS 1 rfl hq191).take 1) rfl fin1) (dt rfl (clS C46 rfl rfl rfl rfl (fun w H hH le => w46 hH (hl181.mono (Flat.mono _) (le.at 1 rfl)) (hl196.mono (Flat.mono _) (le.at 1 rfl)) hx201) fin1) ?_)))))))))))
       refine dt rfl (nt rfl rfl fin1) (dt rfl (m1 rfl fin1) (dt rfl (gF rfl rfl (congrArg not (hb203)) rfl fin1) (dt rfl (gF rfl rfl (congrArg not (hb203)) rfl fin1) (dt rfl (gF rfl rfl (congrArg not (hb203)) rfl fin1) (dt rfl (gF rfl rfl (congrArg not (hb203)) rfl fin1) (dt rfl (gF rfl rfl (congrArg not (hb203)) rfl fin1) (dt rfl (gF rfl rfl (congrArg not (hb203)) rfl fin1) (dt rfl (gF rfl rfl (congrArg not (hb203)) rfl fin1) (dt rfl (gF rfl rfl (congrArg not (hb203)) rfl fin1) (dt rfl (gF rfl rfl (congrArg not (hb203)) rfl fin1) (dt rfl (gF rfl rfl (congrArg not (hb203)) rfl fin1) ?_)))))))))))
       refine dt rfl (gF rfl rfl (congrArg not (hb203)) rfl fin1) (dt rfl (gF rfl rfl (congrArg not (hb203)) rfl fin1) (dt rfl (pT rfl rfl (congrArg not (hb203)) rfl fin1) (dt rfl (m1 rfl fin1) (dt rfl (gF rfl rfl rfl rfl fin1) (dt rfl (gF rfl rfl rfl rfl fin1) (dt rfl (gF rfl rfl rfl rfl fin1) (dt rfl (gF rfl rfl rfl rfl fin1) (dt rfl (gF rfl rfl rfl rfl fin1) (dt rfl (gF rfl rfl rfl rfl fin1) (dt rfl (gF rfl rfl rfl rfl fin1) (dt rfl (gF rfl rfl rfl rfl fin1) ?_)))))))))))
       refine dt rfl (gF rfl rfl rfl rfl fin1) (dt rfl (gF rfl rfl rfl rfl fin1) (DF.nil fun K214 hF => (gF rfl rfl rfl rfl (pT rfl rfl rfl rfl (on ?_)))))
       cases hr213
       intro a w hS hA
       exact ⟨hS.selH [1] rfl, hA.cut ⟨rfl, rfl, rfl, rfl, tv⟩⟩
     ·rintro a w ⟨hS, hA⟩
      refine TG.ap ?_ hS hA
      refine cb rfl (fun hc218 => ?_) (fun hc218 => ?_)
      ·have hr219 := if_p hc218 hr169
       refine sq (rg (a1 rfl (on (rt_ ?_))))
       cases hr219
       obtain rfl := Fin.out hz66
       cases hr62
       intro a w hS hA
       refine ret1 hA rfl rfl ?_
       exact ⟨rfl, hS.ext⟩
      ·have hr220 := if_f hc218 hr169
       refine sk (rg (m1 rfl (adI rfl rfl rfl (by omega) (a1 rfl (on ?_)))))
       cases hr220
       intro a w hS hA
       exact ⟨_, hz66, hS, hA.cut ⟨rfl, rfl, rfl, tv⟩⟩
    ·have hr221 := if_n hc71 hr65
     refine xt rfl ?_
     cases hr221
     obtain rfl := Fin.out hz66
     intro a w hS hA
     exact ⟨_, rfl, hS, hA.cut tv⟩
  ·rintro a w ⟨t63, rfl, hS, hA⟩
   refine TG.ap ?_ hS hA
   refine sq (rg (a1 rfl (on (rt_ ?_))))
   cases hr62
   intro a w hS hA
   refine ret1 hA rfl rfl ?_
   exact ⟨rfl, hS.ext⟩

theorem w10 {M : Prop} {W : World} {H : Hp} (hH : H.le (hp W)) (hg : Gv M H) {cs_l_0 : List Value} (l_0 : Lexicon) (h_l_0 : (RLexicon) H cs_l_0 l_0) {ad_swaps : Option Addr} {cap_swaps : Nat} {swaps : List Swap} (h_swaps : Sl (Flat encSwap) 3 H ad_swaps cap_swaps swaps) {cs_r_2 : List Value} (r_2 : Report) (h_r_2 : (RReport) H cs_r_2 r_2) {ad_requests : Option Addr} {cap_requests : Nat} {requests : List Request} (h_requests : Sl (RRequest) 5 H ad_requests cap_requests requests) {r : Bool} (hr : m10 l_0 swaps r_2 requests = some r) : Calls Tryz.prog 10 [.agg cs_l_0.toArray, .slice ad_swaps swaps.length cap_swaps, .agg cs_r_2.toArray, .slice ad_requests requests.length cap_requests].toArray W (RetS M W (.bool r)) := by
 have hh_l_0 := h_l_0
 obtain ⟨ad1, cap2, ad4, cap5, ad7, cap8, rfl, hl3, hl6, hl9⟩ := h_l_0
 have := hl3.len
 have := hl6.len
 have := hl9.len
 have := h_swaps.len
 have hh_r_2 := h_r_2
 obtain ⟨ad10, cap11, rfl, hl12⟩ := h_r_2
 have := hl12.len
 have := h_requests.len
 unfold m10 at hr
 refine enterG (M := M) Tryz.func10 rfl Tryz.ntmps10 rfl hH ?_
 refine sq (rg (bI (cs := [.slice ad1 l_0.numbers.length cap2, .slice ad4 l_0.names.length cap5, .slice ad7 l_0.nots.length cap8]) rfl rfl rfl fun q13 K14 hK15 => (bI (cs := [.slice ad10 r_2.words.length cap11, .int .i64 r_2.out, .int .i64 r_2.within]) rfl rfl rfl fun q16 K17 hK18 => (a1 rfl (on (sq (sq ?_)))))))
 obtain ⟨t28, hx29, hr30⟩ := bd_some hr
 refine jn (fun a w => St M W H [K17, K14, H] [] w ∧ Has [] 70 a [(1, .slice ad_swaps swaps.length cap_swaps), (3, .slice ad_requests requests.length cap_requests), (4, .pointer (some q13)), (6, .pointer (some q16)), (21, .bool t28)]) ?_ ?_
 ·refine rg (ldA G26 Z26 rfl rfl (sS 1 rfl hK15) rfl (m1 rfl ?_))
  obtain ⟨r31, hx32, hr33⟩ := bd_some hx29
  refine clS C15 rfl rfl rfl rfl (fun w H hH le => w15 hH l_0 (RLexicon.mono _ _ _ _ (le.at 2 rfl) hh_l_0) (h_swaps.mono (Flat.mono _) (le.at 2 rfl)) hx32) (nt rfl rfl (m1 rfl ?_))
  rcases Bool.eq_false_or_eq_true (r31) with hb34 | hb34
  ·have hr35 := if_p hb34 hr33
   refine gN rfl rfl (congrArg not (hb34)) (ldA G68 Z68 rfl rfl (sS 0 rfl hK18) rfl (gN rfl rfl (congrArg not (hb34)) (m1 rfl (gN rfl rfl (congrArg not (hb34)) ?_))))
   obtain ⟨r36, hx37, hr38⟩ := bd_some hr35
   refine clS C35 rfl rfl rfl rfl (fun w H hH le => w35 hH r_2 (RReport.mono _ _ _ _ (le.at 2 rfl) hh_r_2) (h_requests.mono (RRequest.mono) (le.at 2 rfl)) hx37) (gN rfl rfl (congrArg not (hb34)) (nt rfl rfl (pF rfl rfl (congrArg not (hb34)) rfl (on ?_))))
   cases hr38
   exact cu ⟨rfl, rfl, rfl, rfl, rfl, tv⟩
  ·have hr39 := if_f hb34 hr33
   refine gF rfl rfl (congrArg not (hb34)) rfl (gF rfl rfl (congrArg not (hb34)) rfl (gF rfl rfl (congrArg not (hb34)) rfl (gF rfl rfl (congrArg not (hb34)) rfl (pT rfl rfl (congrArg not (hb34)) rfl (on ?_)))))
   cases hr39
   exact cu ⟨rfl, rfl, rfl, rfl, rfl, tv⟩
 ·rintro a w ⟨hS, hA⟩
  refine TG.ap ?_ hS hA
  refine cb rfl (fun hc46 => ?_) (fun hc46 => ?_)
  ·have hr47 := if_p hc46 hr30
   refine sq (rg ?_)
   obtain ⟨r48, hx49, hr50⟩ := bd_some hr47
   refine clS C17 rfl rfl rfl rfl (fun w H hH le => w17 hH (hg.mono (le.at 2 rfl))  hx49) (a1 rfl (on (rt_ ?_)))
   cases hr50
   intro a w hS hA
   refine ret1 hA rfl rfl ?_
   exact ⟨rfl, hS.ext⟩
  ·have hr51 := if_f hc46 hr30
   refine sk (sq ?_)
   obtain ⟨r52, hx53, hr54⟩ := bd_some hr51
   obtain ⟨r60, hx61, hr62⟩ := bd_some hr54
   obtain ⟨r70, hx71, hr72⟩ := bd_some hr62
   obtain ⟨r78, hx79, hr80⟩ := bd_some hr72
   obtain ⟨r88, hx89, hr90⟩ := bd_some hr80
   refine drG 13 mixed (by kernel_rfl) rfl (dt rfl (ldA G26 Z26 rfl rfl (sS 2 rfl hK15) rfl fin1) ?_)
   refine DF.und (α := List Value) [] (fun q => .agg q.toArray) (fun (q : List Value) K => (RLexicon) K q r52) (fun _ _ _ h x => RLexicon.mono _ _ _ _ h x) (by kernel_rfl) rfl (fun a w K hS hA hF => TG.pa hS hA (clK C19 rfl rfl rfl rfl (fun w H hH le => w19 hH l_0 (RLexicon.mono _ _ _ _ (le.at 3 rfl) hh_l_0) hx53) (by
     rintro v_ K55 ⟨cs56, rfl, hr57⟩
     exact finU (f := fun q => .agg q.toArray) (G := (fun (q : List Value) K => (RLexicon) K q r52)) _ (fun _ _ _ h x => RLexicon.mono _ _ _ _ h x) hr57))) fun cs59 => ?_
   refine dt rfl (m1 rfl fin1) ?_
   refine DF.und (α := Option Addr × Nat) (none, 0) (fun q => .slice q.1 r60.length q.2) (fun (q : Option Addr × Nat) K => Sl (Flat encSwap) 3 K q.1 q.2 r60) (fun _ _ _ h x => x.mono (Flat.mono _) h) (by kernel_rfl) rfl (fun a w K hS hA hF => TG.pa hS hA (clK C20 rfl rfl rfl rfl (fun w H hH le => w20 hH (h_swaps.mono (Flat.mono _) (le.at 3 rfl)) hx61) (by
     rintro v_ K63 ⟨ad64, cap65, rfl, hl66⟩
     exact finU (f := fun q => .slice q.1 r60.length q.2) (G := (fun (q : Option Addr × Nat) K => Sl (Flat encSwap) 3 K q.1 q.2 r60)) (_, _) (fun _ _ _ h x => x.mono (Flat.mono _) h) hl66))) ?_
   rintro ⟨ad68, cap69⟩
   refine dt rfl (ldA G68 Z68 rfl rfl (sS 1 rfl hK18) rfl fin1) ?_
   refine DF.und (α := List Value) [] (fun q => .agg q.toArray) (fun (q : List Value) K => (RReport) K q r70) (fun _ _ _ h x => RReport.mono _ _ _ _ h x) (by kernel_rfl) rfl (fun a w K hS hA hF => TG.pa hS hA (clK C31 rfl rfl rfl rfl (fun w H hH le => w31 hH r_2 (RReport.mono _ _ _ _ (le.at 3 rfl) hh_r_2) hx71) (by
     rintro v_ K73 ⟨cs74, rfl, hr75⟩
     exact finU (f := fun q => .agg q.toArray) (G := (fun (q : List Value) K => (RReport) K q r70)) _ (fun _ _ _ h x => RReport.mono _ _ _ _ h x) hr75))) fun cs77 => ?_
   refine dt rfl (m1 rfl fin1) ?_
   refine DF.und (α := Option Addr × Nat) (none, 0) (fun q => .slice q.1 r78.length q.2) (fun (q : Option Addr × Nat) K => Sl (RRequest) 5 K q.1 q.2 r78) (fun _ _ _ h x => x.mono (RRequest.mono) h) (by kernel_rfl) rfl (fun a w K hS hA hF => TG.pa hS hA (clK C32 rfl rfl rfl rfl (fun w H hH le => w32 hH (h_requests.mono (RRequest.mono) (le.at 3 rfl)) hx79) (by
     rintro v_ K81 ⟨ad82, cap83, rfl, hl84⟩
     exact finU (f := fun q => .slice q.1 r78.length q.2) (G := (fun (q : Option Addr × Nat) K => Sl (RRequest) 5 K q.1 q.2 r78)) (_, _) (fun _ _ _ h x => x.mono (RRequest.mono) h) hl84))) ?_
   rintro ⟨ad86, cap87⟩
   refine DF.und (α := Option Addr × Nat) (none, 0) (fun q => .tuple [.slice q.1 r88.1.length q.2, .int .i64 r88.2].toArray) (fun (q : Option Addr × Nat) K => Sl (RSegment) 3 K q.1 q.2 r88.1) (fun _ _ _ h x => x.mono (RSegment.mono) h) (by kernel_rfl) rfl (fun a w K hS hA hF => TG.pa hS hA (clK C42 rfl rfl rfl rfl (fun w H hH le => w42 hH (hg.mono (le.at 3 rfl)) r52 (RLexicon.mono _ _ _ _ (le.at 0 rfl) (hF.2.2.2.1 rfl)) ((hF.2.2.1 rfl).mono (Flat.mono _) (le.at 0 rfl)) r70 (RReport.mono _ _ _ _ (le.at 0 rfl) (hF.2.1 rfl)) ((hF.1 rfl).mono (RRequest.mono) (le.at 0 rfl)) hx89) (by
     rintro v_ K91 ⟨ad92, cap93, rfl, hl94⟩
     exact finU (f := fun q => .tuple [.slice q.1 r88.1.length q.2, .int .i64 r88.2].toArray) (G := (fun (q : Option Addr × Nat) K => Sl (RSegment) 3 K q.1 q.2 r88.1)) (ad92, cap93) (fun _ _ _ h x => x.mono (RSegment.mono) h) hl94))) ?_
   rintro ⟨ad96, cap97⟩
   refine DF.und () (fun _ => .tuple [.slice ad96 r88.1.length cap97, .int .i64 r88.2].toArray) (fun _ K => Sl (RSegment) 3 K ad96 cap97 r88.1) (fun _ _ _ h x => x.mono (RSegment.mono) h) (by kernel_rfl) rfl (fun a w K hS hA hF => TG.pa hS hA (m1 rfl (finF (f := fun _ => .tuple [.slice ad96 r88.1.length cap97, .int .i64 r88.2].toArray) (G := fun _ K => Sl (RSegment) 3 K ad96 cap97 r88.1) () (hF.1 rfl)))) fun _ => (DF.und () (fun _ => .slice ad96 r88.1.length cap97) (fun _ K => Sl (RSegment) 3 K ad96 cap97 r88.1) (fun _ _ _ h x => x.mono (RSegment.mono) h) (by kernel_rfl) rfl (fun a w K hS hA hF => TG.pa hS hA (ex rfl rfl rfl (finF (f := fun _ => .slice ad96 r88.1.length cap97) (G := fun _ K => Sl (RSegment) 3 K ad96 cap97 r88.1) () (hF.1 rfl)))) fun _ => (dt rfl (ex rfl rfl rfl fin1) (DF.und () (fun _ => .slice ad96 r88.1.length cap97) (fun _ K => Sl (RSegment) 3 K ad96 cap97 r88.1) (fun _ _ _ h x => x.mono (RSegment.mono) h) (by kernel_rfl) rfl (fun a w K hS hA hF => TG.pa hS hA (a1 rfl (finF (f := fun _ => .slice ad96 r88.1.length cap97) (G := fun _ K => Sl (RSegment) 3 K ad96 cap97 r88.1) () (hF.1 rfl)))) fun _ => (DF.nil fun K101 hF => ?_))))
   obtain ⟨hu100, hu99, hu98, hu95, hu85, hu76, hu67, hu58, _⟩ := hF
   have hr102 := hu58
   obtain ⟨ad103, cap104, ad106, cap107, ad109, cap110, rfl, hl105, hl108, hl111⟩ := hu58
   have := hl105.len
   have := hl108.len
   have := hl111.len
   have := hu67.len
   have hr112 := hu76
   obtain ⟨ad113, cap114, rfl, hl115⟩ := hu76
   have := hl115.len
   have := hu85.len
   have := hu95.len
   refine a1 rfl (on (sq (sq (rg (ldA G26 Z26 rfl rfl (sS 2 rfl hK15) rfl (m1 rfl (ldA G68 Z68 rfl rfl (sS 1 rfl hK18) rfl (m1 rfl ?_))))))))
   obtain ⟨r116, hx117, hr118⟩ := bd_some hr90
   refine clS C38 rfl rfl rfl rfl (fun w H hH le => w38 hH l_0 (RLexicon.mono _ _ _ _ (le.at 3 rfl) hh_l_0) (h_swaps.mono (Flat.mono _) (le.at 3 rfl)) r_2 (RReport.mono _ _ _ _ (le.at 3 rfl) hh_r_2) (h_requests.mono (RRequest.mono) (le.at 3 rfl)) hx117) (a1 rfl (on (sq (rg (m1 rfl (neI rfl rfl rfl (on ?_)))))))
   refine ci rfl (fun hc132 => ?_) (fun hc132 => ?_)
   ·have hr133 := if_p hc132 hr118
    refine sq ?_
    obtain ⟨t143, hx144, hr145⟩ := bd_some hr133
    refine jn (fun a w => St M W H [K101, K17, K14, H] [] w ∧ Has [] 70 a [(8, .bool t143)]) ?_ ?_
    ·refine rg (m1 rfl (m1 rfl (eqI rfl rfl rfl (m1 rfl ?_))))
     by_cases hb146 : r88.2 = r116
     ·have hr147 := if_p hb146 hx144
      refine gt hb146 rfl (m1 rfl (gt hb146 rfl (lnL U91 rfl rfl (gt hb146 rfl (eqI rfl rfl rfl (pt hb146 rfl rfl (m1 rfl ?_)))))))
      by_cases hb148 : (r88.1.length : Int) = 0
      ·have hr149 := if_p hb148 hr147
       refine gt hb148 rfl ?_
       obtain ⟨r150, hx151, hr152⟩ := bd_some hr149
       refine clS C17 rfl rfl rfl rfl (fun w H hH le => w17 hH (hg.mono (le.at 3 rfl))  hx151) (pt hb148 rfl rfl (a1 rfl (on ?_)))
       cases hr152
       exact cu ⟨rfl, tv⟩
      ·have hr153 := if_n hb148 hr147
       refine gf hb148 rfl (pf hb148 rfl rfl (a1 rfl (on ?_)))
       cases hr153
       exact cu ⟨rfl, tv⟩
     ·have hr154 := if_n hb146 hx144
      refine gf hb146 rfl (gf hb146 rfl (gf hb146 rfl (pf hb146 rfl rfl (m1 rfl (gF rfl rfl rfl rfl (pF rfl rfl rfl rfl (a1 rfl (on ?_))))))))
      cases hr154
      exact cu ⟨rfl, tv⟩
    ·rintro a w ⟨hS, hA⟩
     refine TG.ap ?_ hS hA
     refine rt_ ?_
     cases hr145
     intro a w hS hA
     refine ret1 hA rfl rfl ?_
     exact ⟨rfl, hS.ext⟩
   ·have hr155 := if_n hc132 hr118
    refine sk (sq ?_)
    obtain ⟨t190, hx191, hr192⟩ := bd_some hr155
    refine jn (fun a w => St M W H [K101, K17, K14, H] [] w ∧ Has [] 70 a [(8, .bool t190)]) ?_ ?_
    ·by_cases hb193 : r88.2 = 0
     ·have hr194 := if_p hb193 hx191
      obtain ⟨r195, hx196, hr197⟩ := bd_some hr194
      obtain ⟨r205, hx206, hr207⟩ := bd_some hr197
      refine drG 12 mixed (by kernel_rfl) rfl (dt rfl (m1 rfl fin1) (dt rfl (eqI rfl rfl rfl fin1) (dt rfl (m1 rfl fin1) (dt rfl (gt hb193 rfl (m1 rfl fin1)) (dt rfl (gt hb193 rfl (ldA G68 Z68 rfl rfl (sS 2 rfl hK18) rfl fin1)) (dt rfl (gt hb193 rfl (m1 rfl fin1)) (dt rfl (gt hb193 rfl (ldA G26 Z26 rfl rfl (sS 3 rfl hK15) rfl fin1)) (dt rfl (gt hb193 rfl (m1 rfl fin1)) (dt rfl (gt hb193 rfl (ldA G68 Z68 rfl rfl (sS 2 rfl hK18) rfl fin1)) (dt rfl (gt hb193 rfl (m1 rfl fin1)) ?_))))))))))
      refine DF.und (α := Option Addr × Nat) (none, 0) (fun q => .slice q.1 r195.length q.2) (fun (q : Option Addr × Nat) K => Sl (Flat (encI .i64)) 1 K q.1 q.2 r195) (fun _ _ _ h x => x.mono (Flat.mono _) h) (by kernel_rfl) rfl (fun a w K hS hA hF => TG.pa hS hA (gt hb193 rfl (clK C39 rfl rfl rfl rfl (fun w H hH le => w39 hH l_0 (RLexicon.mono _ _ _ _ (le.at 4 rfl) hh_l_0) (h_swaps.mono (Flat.mono _) (le.at 4 rfl)) r_2 (RReport.mono _ _ _ _ (le.at 4 rfl) hh_r_2) (h_requests.mono (RRequest.mono) (le.at 4 rfl)) hx196) (by
        rintro v_ K198 ⟨ad199, cap200, rfl, hl201⟩
        exact finU (f := fun q => .slice q.1 r195.length q.2) (G := (fun (q : Option Addr × Nat) K => Sl (Flat (encI .i64)) 1 K q.1 q.2 r195)) (_, _) (fun _ _ _ h x => x.mono (Flat.mono _) h) hl201)))) ?_
      rintro ⟨ad203, cap204⟩
      refine DF.und (α := Option Addr × Nat) (none, 0) (fun q => .slice q.1 r205.length q.2) (fun (q : Option Addr × Nat) K => Sl (RSegment) 3 K q.1 q.2 r205) (fun _ _ _ h x => x.mono (RSegment.mono) h) (by kernel_rfl) rfl (fun a w K hS hA hF => TG.pa hS hA (gt hb193 rfl (clK C44 rfl rfl rfl rfl (fun w H hH le => w44 hH r_2 (RReport.mono _ _ _ _ (le.at 4 rfl) hh_r_2) (h_requests.mono (RRequest.mono) (le.at 4 rfl)) ((hF.1 rfl).mono (Flat.mono _) (le.at 0 rfl)) hx206) (by
        rintro v_ K208 ⟨ad209, cap210, rfl, hl211⟩
        exact finU (f := fun q => .slice q.1 r205.length q.2) (G := (fun (q : Option Addr × Nat) K => Sl (RSegment) 3 K q.1 q.2 r205)) (_, _) (fun _ _ _ h x => x.mono (RSegment.mono) h) hl211)))) ?_
      rintro ⟨ad213, cap214⟩
      refine DF.nil fun K215 hF => ?_
      obtain ⟨hu212, hu202, _⟩ := hF
      have := hu202.len
      have := hu212.len
      refine gt hb193 rfl ?_
      obtain ⟨r216, hx217, hr218⟩ := bd_some hr207
      refine clS C43 rfl rfl rfl rfl (fun w H hH le => w43 hH (hu100.mono (RSegment.mono) (le.at 1 rfl)) (hu212.mono (RSegment.mono) (le.at 0 rfl)) hx217) (pt hb193 rfl rfl (m1 rfl ?_))
      rcases Bool.eq_false_or_eq_true (r216) with hb219 | hb219
      ·have hr220 := if_p hb219 hr218
       refine gN rfl rfl (hb219) ?_
       obtain ⟨r221, hx222, hr223⟩ := bd_some hr220
       refine clS C17 rfl rfl rfl rfl (fun w H hH le => w17 hH (hg.mono (le.at 4 rfl))  hx222) (pT rfl rfl (hb219) rfl (a1 rfl (on ?_)))
       cases hr223
       intro a w hS hA
       exact ⟨hS.selH [1, 2, 3, 4] rfl, hA.cut ⟨rfl, tv⟩⟩
      ·have hr224 := if_f hb219 hr218
       refine gF rfl rfl (hb219) rfl (pF rfl rfl (hb219) rfl (a1 rfl (on ?_)))
       cases hr224
       intro a w hS hA
       exact ⟨hS.selH [1, 2, 3, 4] rfl, hA.cut ⟨rfl, tv⟩⟩
     ·have hr225 := if_n hb193 hx191
      refine drG 12 mixed (by kernel_rfl) rfl (dt rfl (m1 rfl fin1) (dt rfl (eqI rfl rfl rfl fin1) (dt rfl (m1 rfl fin1) (dt rfl (gf hb193 rfl fin1) (dt rfl (gf hb193 rfl fin1) (dt rfl (gf hb193 rfl fin1) (dt rfl (gf hb193 rfl fin1) (dt rfl (gf hb193 rfl fin1) (dt rfl (gf hb193 rfl fin1) (dt rfl (gf hb193 rfl fin1) (dt rfl (gf hb193 rfl fin1) ?_)))))))))))
      refine dt rfl (gf hb193 rfl fin1) (DF.nil fun K226 hF => (gf hb193 rfl (pf hb193 rfl rfl (m1 rfl (gF rfl rfl rfl rfl (pF rfl rfl rfl rfl (a1 rfl (on ?_))))))))
      cases hr225
      intro a w hS hA
      exact ⟨hS.selH [1, 2, 3, 4] rfl, hA.cut ⟨rfl, tv⟩⟩
    ·rintro a w ⟨hS, hA⟩
     refine TG.ap ?_ hS hA
     refine rt_ ?_
     cases hr192
     intro a w hS hA
     refine ret1 hA rfl rfl ?_
     exact ⟨rfl, hS.ext⟩

end T4
