/-
 Walks of functions of layer 10: each call comes to what the model says. Printed by a program of ours.
-/
import Derived.Test.YtfdcbjoihcdneaaGreatDoorWalkA
set_option linter.all false
set_option maxHeartbeats 4000000
namespace T10
open Go Go.Proofs Pk
theorem w35 {M : Prop} {W : World} {H : Hp} (hH : H.le (hp W)) {cs_v_0 : List Value} (v_0 : Volume) (h_v_0 : (RVolume) H cs_v_0 v_0) {ad_errata : Option Addr} {cap_errata : Nat} {errata : List Erratum} (h_errata : Sl (Flat encErratum) 6 H ad_errata cap_errata errata) (to_2 : Int) {r : edition} (hr : m35 v_0 errata to_2 = some r) : Calls Tryz.prog 35 [.agg cs_v_0.toArray, .slice ad_errata errata.length cap_errata, .int .i64 to_2].toArray W (RetK M H W (fun v K => ∃ (u0 : Addr) (cs0 : List Value), v = .pointer (some u0) ∧ CellsAt K u0 cs0 ∧ (Redition) K cs0 r)) := by
 have hh_v_0 := h_v_0
 obtain ⟨ad1, cap2, rfl, hl3⟩ := h_v_0
 have := hl3.len
 have := h_errata.len
 unfold m35 at hr
 refine enterGM (M := M) Tryz.func35 rfl Tryz.ntmps35 rfl hH ?_
 refine sq (rg (bI (cs := [.int .i64 v_0.number, .int .i64 v_0.bound, .int .i64 v_0.height, .int .i64 v_0.width, .slice ad1 v_0.parts.length cap2]) rfl rfl rfl fun q4 K5 hK6 => (a1 rfl (on (sq (rg (ldA G37 Z37 rfl rfl (sS 0 rfl hK6) rfl (bu (cs := [.int .i64 v_0.number, .int .i64 v_0.bound, .int .i64 v_0.height, .int .i64 v_0.width, .slice ad1 v_0.parts.length cap2, .slice none 0 0]) T10.B90 rfl rfl rfl (bO 1 rfl rfl rfl fun b7 => (va (cs := [.pointer (some (⟨b7, 0, none⟩))]) Tryz.zeroValue91 Z91 rfl rfl rfl rfl rfl rfl rfl rfl fun q8 K9 hK10 => (on ?_)))))))))))
 refine sq (sq (rg (fb 4 U37 rfl rfl rfl rfl Z35 (ld G35 rfl rfl ((sS 1 rfl hK6).drop 4) rfl (lnL U35 rfl rfl (m1 rfl (on (TG.nilRow 5 93 1 (TG.as 5 (z := Own.list none 0 93 1 encV ([] : List Hd)) rfl rfl (TG.gopen (σ := [(5, Own.list none 0 93 1 encV ([] : List Hd)), (1, cel b7 90 [.int .i64 v_0.number, .int .i64 v_0.bound, .int .i64 v_0.height, .int .i64 v_0.width, .slice ad1 v_0.parts.length cap2, .slice none 0 0])]) 95 3 encentry 1000 0 ?_))))))))))
 have hG114 := Grid.none entry
 obtain ⟨e437, hl438, hr439⟩ := bd_some hr
 refine jn (fun a w => ∃ (hd440 : List Hd) (as441 : List Adr) (ad444 : Option Addr) (cap445 : Nat), St M W H [K9, K5, H] ([(5, Own.list ad444 cap445 93 1 encV hd440), (1, cel b7 90 [.int .i64 v_0.number, .int .i64 v_0.bound, .int .i64 v_0.height, .int .i64 v_0.width, .slice ad1 v_0.parts.length cap2, .slice ad444 hd440.length cap445])] ++ grp 95 3 encentry 1000 as441 e437) w ∧ Has [] 76 a [(1, .slice ad_errata errata.length cap_errata), (2, .int .i64 to_2), (7, .pointer (some q8))] ∧ Grid hd440 as441 e437) ?_ ?_
 ·refine bk ?_
  refine lp hl438 (fun s446 a w => ∃ (hd447 : List Hd) (as448 : List Adr) (ad451 : Option Addr) (cap452 : Nat), St M W H [K9, K5, H] ([(5, Own.list ad451 cap452 93 1 encV hd447), (1, cel b7 90 [.int .i64 v_0.number, .int .i64 v_0.bound, .int .i64 v_0.height, .int .i64 v_0.width, .slice ad1 v_0.parts.length cap2, .slice ad451 hd447.length cap452])] ++ grp 95 3 encentry 1000 as448 s446.2) w ∧ Has [] 76 a [(1, .slice ad_errata errata.length cap_errata), (2, .int .i64 to_2), (7, .pointer (some q8)), (21, .slice ad1 v_0.parts.length cap2), (22, .int .i64 (v_0.parts.length : Int)), (23, .int .i64 (s446.1 : Int))] ∧ Grid hd447 as448 s446.2) ?_ ?_
  ·intro a w hS hA
   exact ⟨([] : List Hd), ([] : List Adr), none, 0, hS, hA.cut ⟨rfl, rfl, rfl, rfl, rfl, rfl, tv⟩, hG114⟩
  ·rintro j s446 y455 hr453 hz454 a w ⟨hd447, as448, ad451, cap452, hS, hA, hG449⟩
   refine TG.ap ?_ hS hA
   unfold m35_1 at hr453
   refine sq (rg (ltI rfl rfl rfl (on (sq ?_))))
   refine ci rfl (fun hc459 => ?_) (fun hc459 => ?_)
   ·have hr460 := if_p hc459 hr453
    refine sk (sq (bk (sq (rg ?_))))
    obtain ⟨x559, hx560, hr561⟩ := bd_some hr460
    obtain ⟨p562, rfl⟩ := hl3.adr hx560
    obtain ⟨cs563, hcs564, hq565, hr566⟩ := hl3.at hx560
    have hr567 := hr566
    obtain ⟨ad568, cap569, rfl, hl570⟩ := hr566
    have := hl570.len
    refine iaP U35 Z79 rfl rfl rfl rfl (lt_of hx560) (ldA G79 Z79 rfl rfl (sS 2 rfl hq565) rfl (va (cs := [.int .i64 x559.day, .slice ad568 x559.paragraphs.length cap569]) Tryz.zeroValue79 Z79 rfl rfl rfl rfl rfl rfl rfl rfl fun q571 K572 hK573 => (on (sq (rg (a1 rfl (on (sq (sq (rg (fb 1 U79 rfl rfl rfl rfl Z31 ?_)))))))))))
    refine ld G31 rfl rfl ((sS 0 rfl hK573).drop 1) rfl (lnL U31 rfl rfl (m1 rfl (on (TG.nilRow 3 95 3 (TG.as 3 (z := Own.list none 0 95 3 encentry ([] : List entry)) rfl rfl ?_)))))
    obtain ⟨e640, hl641, hr642⟩ := bd_some hr561
    refine jn (fun a w => ∃ (ad643 : Option Addr) (cap644 : Nat), St M W H [K572, K9, K5, H] ([(3, Own.list ad643 cap644 95 3 encentry e640), (5, Own.list ad451 cap452 93 1 encV hd447), (1, cel b7 90 [.int .i64 v_0.number, .int .i64 v_0.bound, .int .i64 v_0.height, .int .i64 v_0.width, .slice (some p562) v_0.parts.length cap2, .slice ad451 hd447.length cap452])] ++ grp 95 3 encentry 1000 as448 s446.2) w ∧ Has [] 76 a [(1, .slice ad_errata errata.length cap_errata), (2, .int .i64 to_2), (7, .pointer (some q8)), (10, .slice ad643 e640.length cap644), (21, .slice (some p562) v_0.parts.length cap2), (22, .int .i64 (v_0.parts.length : Int)), (23, .int .i64 (s446.1 : Int))]) ?_ ?_
    ·refine bk ?_
     refine lp hl641 (fun s645 a w => ∃ (ad646 : Option Addr) (cap647 : Nat), St M W H [K572, K9, K5, H] ([(3, Own.list ad646 cap647 95 3 encentry s645.2), (5, Own.list ad451 cap452 93 1 encV hd447), (1, cel b7 90 [.int .i64 v_0.number, .int .i64 v_0.bound, .int .i64 v_0.height, .int .i64 v_0.width, .slice (some p562) v_0.parts.length cap2, .slice ad451 hd447.length cap452])] ++ grp 95 3 encentry 1000 as448 s446.2) w ∧ Has [] 76 a [(1, .slice ad_errata errata.length cap_errata), (2, .int .i64 to_2), (7, .pointer (some q8)), (10, .slice ad646 s645.2.length cap647), (21, .slice (some p562) v_0.parts.length cap2), (22, .int .i64 (v_0.parts.length : Int)), (23, .int .i64 (s446.1 : Int)), (28, .slice ad568 x559.paragraphs.length cap569), (29, .int .i64 (x559.paragraphs.length : Int)), (30, .int .i64 (s645.1 : Int))]) ?_ ?_
     ·intro a w hS hA
      exact ⟨none, 0, hS, hA.cut ⟨rfl, rfl, rfl, rfl, rfl, rfl, rfl, rfl, rfl, rfl, tv⟩⟩
     ·rintro j s645 y650 hr648 hz649 a w ⟨ad646, cap647, hS, hA⟩
      refine TG.ap ?_ hS hA
      unfold m35_2 at hr648
      refine sq (rg (ltI rfl rfl rfl (on (sq ?_))))
      refine ci rfl (fun hc654 => ?_) (fun hc654 => ?_)
      ·have hr655 := if_p hc654 hr648
       refine sk (sq (bk (sq (rg ?_))))
       obtain ⟨x672, hx673, hr674⟩ := bd_some hr655
       obtain ⟨p675, rfl⟩ := hl570.adr hx673
       obtain ⟨cs676, hcs677, hq678, hr679⟩ := hl570.at hx673
       obtain rfl := hr679
       refine iaP U31 Z67 rfl rfl rfl rfl (lt_of hx673) (ldA G67 Z67 rfl rfl (sS 3 rfl hq678) rfl (va (cs := [.int .i64 x672.anchor, .string (bs x672.text)]) Tryz.zeroValue67 Z67 rfl rfl rfl rfl rfl rfl rfl rfl fun q680 K681 hK682 => (on (rg (m1 rfl (ldA G67 Z67 rfl rfl (sS 0 rfl hK682) rfl (bu (cs := [.int .i64 x672.anchor, .string (bs x672.text), .bool false]) T10.B95 rfl rfl rfl ?_)))))))
       obtain ⟨hk683, hr684⟩ := chk_some hr674
       have := lenA s645.2 [(⟨x672, false⟩ : entry)]
       refine ap1 3 encentry (l := s645.2) (⟨x672, false⟩ : entry) T10.E93 rfl rfl rfl rfl rfl rfl rfl rfl rfl rfl rfl rfl hk683 fun ad685 cap686 u687 => (a1 rfl (on (rg (adI rfl rfl rfl (by omega) (m1 rfl (on ?_))))))
       cases hr684
       intro a w hS hA
       exact ⟨_, hz649, ad685, cap686, hS.selH [1, 2, 3, 4] rfl, hA.cut ⟨rfl, rfl, rfl, rfl, rfl, rfl, rfl, rfl, rfl, rfl, tv⟩⟩
      ·have hr688 := if_n hc654 hr648
       refine xt rfl ?_
       cases hr688
       obtain rfl := Fin.out hz649
       intro a w hS hA
       exact ⟨ad646, cap647, hS, hA.cut ⟨rfl, rfl, rfl, rfl, rfl, rfl, rfl, tv⟩⟩
    ·rintro a w ⟨ad643, cap644, hS, hA⟩
     refine TG.ap ?_ hS hA
     obtain ⟨hk697, hr698⟩ := chk_some hr642
     refine drG2 8 7 mixed (by kernel_rfl) rfl rfl (DG.detA rfl rfl rfl (fun τ a w K hS hA hF => TG.pa hS hA (ld G91 rfl rfl (sS 2 rfl hK10) rfl fin1)) (DG.det (fun τ => τ = ([(3, Own.list ad643 cap644 95 3 encentry e640), (5, Own.list ad451 cap452 93 1 encV hd447), (1, cel b7 90 [.int .i64 v_0.number, .int .i64 v_0.bound, .int .i64 v_0.height, .int .i64 v_0.width, .slice (some p562) v_0.parts.length cap2, .slice ad451 hd447.length cap452])] ++ grp 95 3 encentry 1000 as448 s446.2)) rfl rfl (.inr (by kernel_rfl)) (fun _ h => by cases h) rfl rfl (fun τ hτ a w K hS hA hF => by subst hτ <;> exact TG.pa hS hA (ld G91 rfl rfl (sS 2 rfl hK10) rfl fin1)) (DG.det (fun τ => τ = ([(3, Own.list ad643 cap644 95 3 encentry e640), (5, Own.list ad451 cap452 93 1 encV hd447), (1, cel b7 90 [.int .i64 v_0.number, .int .i64 v_0.bound, .int .i64 v_0.height, .int .i64 v_0.width, .slice (some p562) v_0.parts.length cap2, .slice ad451 hd447.length cap452])] ++ grp 95 3 encentry 1000 as448 s446.2)) rfl rfl (.inr (by kernel_rfl)) (fun _ h => by cases h) rfl rfl (fun τ hτ a w K hS hA hF => by subst hτ <;> exact TG.pa hS hA (nl rfl rfl fin1)) (DG.det (fun τ => τ = ([(3, Own.list ad643 cap644 95 3 encentry e640), (5, Own.list ad451 cap452 93 1 encV hd447), (1, cel b7 90 [.int .i64 v_0.number, .int .i64 v_0.bound, .int .i64 v_0.height, .int .i64 v_0.width, .slice (some p562) v_0.parts.length cap2, .slice ad451 hd447.length cap452])] ++ grp 95 3 encentry 1000 as448 s446.2)) rfl rfl (.inr (by kernel_rfl)) (fun _ h => by cases h) rfl rfl (fun τ hτ a w K hS hA hF => by subst hτ <;> exact TG.pa hS hA (fb 5 U90 rfl rfl rfl rfl Z88 fin1)) (DG.det (fun τ => τ = ([(3, Own.list ad643 cap644 95 3 encentry e640), (5, Own.list ad451 cap452 93 1 encV hd447), (1, cel b7 90 [.int .i64 v_0.number, .int .i64 v_0.bound, .int .i64 v_0.height, .int .i64 v_0.width, .slice (some p562) v_0.parts.length cap2, .slice ad451 hd447.length cap452])] ++ grp 95 3 encentry 1000 as448 s446.2)) rfl rfl (.inr (by kernel_rfl)) (fun _ h => by cases h) rfl rfl (fun τ hτ a w K hS hA hF => by subst hτ <;> exact TG.pa hS hA (ld G88 rfl rfl ((sO 1 rfl).drop 5) rfl fin1)) (DG.det (fun τ => τ = ([(3, Own.list ad643 cap644 95 3 encentry e640), (5, Own.list ad451 cap452 93 1 encV hd447), (1, cel b7 90 [.int .i64 v_0.number, .int .i64 v_0.bound, .int .i64 v_0.height, .int .i64 v_0.width, .slice (some p562) v_0.parts.length cap2, .slice ad451 hd447.length cap452])] ++ grp 95 3 encentry 1000 as448 s446.2)) rfl rfl (.inr (by kernel_rfl)) (fun _ h => by cases h) rfl rfl (fun τ hτ a w K hS hA hF => by subst hτ <;> exact TG.pa hS hA (m1 rfl fin1)) ?_))))))
     refine DG.und (α := Option Addr × Nat) (none, 0) (fun q => .slice q.1 1 q.2) (fun (q : Option Addr × Nat) K => Sl (Flat encV) 1 K q.1 q.2 [(ad643, e640.length, cap644)]) (fun τ => τ = ([(3, Own.list ad643 cap644 95 3 encentry e640), (5, Own.list ad451 cap452 93 1 encV hd447), (1, cel b7 90 [.int .i64 v_0.number, .int .i64 v_0.bound, .int .i64 v_0.height, .int .i64 v_0.width, .slice (some p562) v_0.parts.length cap2, .slice ad451 hd447.length cap452])] ++ grp 95 3 encentry 1000 as448 s446.2)) rfl rfl (.inr (by kernel_rfl)) (fun _ h => by cases h) (fun _ _ _ h x => x.mono (Flat.mono encV) h) (by kernel_rfl) rfl rfl (fun τ hτ a w K hS hA hF => by subst hτ <;> exact TG.pa hS hA (bS (cs := [(Value.slice ad643 e640.length cap644)]) T10.E88 rfl rfl rfl rfl fun q689 K690 hq691 hK692 => by
       have hl693 : Sl (Flat encV) 1 K690 (some q689) 1 [(ad643, e640.length, cap644)] := Sl.litR (css := [[(Value.slice ad643 e640.length cap644)]]) (l := [(ad643, e640.length, cap644)]) ⟨⟨rfl, rfl, rfl⟩, tv⟩ hq691 hK692 rfl
       exact finU (f := fun q => .slice q.1 1 q.2) (G := (fun (q : Option Addr × Nat) K => Sl (Flat encV) 1 K q.1 q.2 [(ad643, e640.length, cap644)])) (_, _) (fun _ _ _ h x => x.mono (Flat.mono encV) h) hl693)) ?_
     rintro ⟨ad695, cap696⟩
     refine DG.turn (α := Option Addr × Nat) (none, 0) (fun q => .slice q.1 ((hd447 ++ [(ad643, e640.length, cap644)]).length) q.2) (fun _ _ => True) (fun q => ([(3, Own.list ad643 cap644 95 3 encentry e640), (5, Own.list q.1 q.2 93 1 encV (hd447 ++ [(ad643, e640.length, cap644)])), (1, cel b7 90 [.int .i64 v_0.number, .int .i64 v_0.bound, .int .i64 v_0.height, .int .i64 v_0.width, .slice (some p562) v_0.parts.length cap2, .slice ad451 hd447.length cap452])] ++ grp 95 3 encentry 1000 as448 s446.2)) rfl (fun _ _ _ _ h => h) (by kernel_rfl) rfl rfl (fun a w K hS hA hF => TG.pa hS hA (apS 5 (enc := encV) (l := hd447) (m := [(ad643, e640.length, cap644)]) T10.E88 rfl rfl rfl rfl rfl rfl (hF.1 rfl) 0 rfl (fun _ => rfl) (fun _ => rfl) rfl (by have := hG449.hlen; simp only [List.length_cons, List.length_nil]; omega) fun ad699 cap700 => finT (f := fun q => .slice q.1 ((hd447 ++ [(ad643, e640.length, cap644)]).length) q.2) (G := fun _ _ => True) (σ1 := fun q => ([(3, Own.list ad643 cap644 95 3 encentry e640), (5, Own.list q.1 q.2 93 1 encV (hd447 ++ [(ad643, e640.length, cap644)])), (1, cel b7 90 [.int .i64 v_0.number, .int .i64 v_0.bound, .int .i64 v_0.height, .int .i64 v_0.width, .slice (some p562) v_0.parts.length cap2, .slice ad451 hd447.length cap452])] ++ grp 95 3 encentry 1000 as448 s446.2)) (_, _) tv)) ?_
     rintro ⟨ad699, cap700⟩
     refine DG.nil fun K701 hF => ?_
     obtain ⟨_, hu694, _⟩ := hF
     have := hu694.len
     refine TG.absorbA [(3, Own.list ad643 cap644 95 3 encentry e640), (5, Own.list ad699 cap700 93 1 encV (hd447 ++ [(ad643, e640.length, cap644)])), (1, cel b7 90 [.int .i64 v_0.number, .int .i64 v_0.bound, .int .i64 v_0.height, .int .i64 v_0.width, .slice (some p562) v_0.parts.length cap2, .slice ad451 hd447.length cap452])] (B := [(5, Own.list ad699 cap700 93 1 encV (hd447 ++ [(ad643, e640.length, cap644)])), (1, cel b7 90 [.int .i64 v_0.number, .int .i64 v_0.bound, .int .i64 v_0.height, .int .i64 v_0.width, .slice (some p562) v_0.parts.length cap2, .slice ad451 hd447.length cap452])]) 3 (b := 1000) hG449 rfl rfl ?_
     have hG702 := hG449.snoc e640 ad643 cap644
     refine nl rfl rfl (fb 5 U90 rfl rfl rfl rfl Z88 (sto 1 (cs := [.slice ad699 ((hd447 ++ [(ad643, e640.length, cap644)]).length) cap700]) Z88 rfl rfl rfl rfl rfl rfl rfl (on (rg (adI rfl rfl rfl (by omega) (m1 rfl (on ?_)))))))
     cases hr698
     intro a w hS hA
     exact ⟨_, hz454, (hd447 ++ [(ad643, e640.length, cap644)]), (as448 ++ [(ad643, cap644)]), ad699, cap700, hS.selH [2, 3, 4] rfl, hA.cut ⟨rfl, rfl, rfl, rfl, rfl, rfl, tv⟩, hG702⟩
   ·have hr703 := if_n hc459 hr453
    refine xt rfl ?_
    cases hr703
    obtain rfl := Fin.out hz454
    intro a w hS hA
    exact ⟨hd447, as448, ad451, cap452, hS, hA.cut ⟨rfl, rfl, rfl, tv⟩, hG449⟩
 ·rintro a w ⟨hd440, as441, ad444, cap445, hS, hA, hG442⟩
  refine TG.ap ?_ hS hA
  refine sq (sq (rg (m1 rfl (m1 rfl (clT C55 Tryz.func55 rfl Tryz.ntmps55 rfl rfl rfl rfl (sq (rg (bI (cs := [.slice ad_errata errata.length cap_errata]) rfl rfl rfl fun q710 K711 hK712 => (bI (cs := [.int .i64 to_2]) rfl rfl rfl fun q713 K714 hK715 => (a1 rfl (on ?_)))))))))))
  refine sq (rg (fn rfl rfl rfl (a1 rfl (on (rt_ ?_)))))
  intro a w hS hA
  refine ret1 hA rfl rfl ?_
  refine ⟨_, rfl, fun a hA => ?_⟩
  refine putK rfl hA hS (on (bk (TG.stillC 1 rfl fun K1212 hK1213 => ?_)))
  obtain ⟨t1701, hx1702, hr1703⟩ := bd_some hr439
  refine rfO 6 7 C77 Tryz.func77 rfl Tryz.ntmps77 rfl rfl (fun l1214 dB1215 O1217 w => (∃ (hd1704 : List Hd) (as1705 : List Adr), St M W H [K1212, K714, K711, K9, K5, H] ([(6, Own.blk l1214 (O1217 .ready none)), (7, Own.blk dB1215 (.deferred (some []))), (5, Own.list ad444 cap445 93 1 encV hd1704)] ++ grp 95 3 encentry 1000 as1705 t1701) w ∧ Grid hd1704 as1705 t1701 ∧ hd1704.length = hd440.length)) ?_ ?_
  ·intro l1214 dB1215 O1217 tm1216 hT1218 hO1219
   refine sq (rg (ld G39 rfl rfl (sS 2 rfl hK712) rfl ?_))
   obtain ⟨t1715, hx1716, hr1717⟩ := bd_some hx1702
   refine clI C78 Tryz.func78 rfl Tryz.ntmps78 rfl rfl rfl rfl (fun v w => (∃ (ad1718 : Option Addr) (cap1719 : Nat), v = .slice ad1718 t1715.length cap1719 ∧ St M W H [K1212, K714, K711, K9, K5, H] ([(8, Own.list ad1718 cap1719 77 6 encErratum t1715), (6, Own.blk l1214 (O1217 .ready none)), (7, Own.blk dB1215 (.deferred (some []))), (5, Own.list ad444 cap445 93 1 encV hd440)] ++ grp 95 3 encentry 1000 as441 e437) w)) ?_ ?_
   ·refine sq (rg (a1 rfl (on (sq (sq (rg (m1 rfl (slN U39 rfl rfl (on ?_)))))))))
    refine cb rfl (fun hc1722 => ?_) (fun hc1722 => ?_)
    ·obtain rfl := Sl.isNil h_errata hc1722
     have hr1723 := (chk_some hx1716).2
     refine sq (rg (a1 rfl (on (rt_ (TG.nilRow 8 77 6 (TG.as 8 (z := Own.list none 0 77 6 encErratum ([] : List Erratum)) rfl rfl ?_))))))
     cases hr1723
     intro a w hS hA
     refine ret1 hA rfl rfl ?_
     exact ⟨_, rfl, ⟨none, 0, rfl, hS⟩⟩
    ·refine sk (sq (rg (bSL 8 encErratum ([] : List Erratum) (cs := []) T10.E39 rfl rfl rfl rfl rfl rfl fun b1724 => (m1 rfl ?_))))
     obtain ⟨hk1725, hr1726⟩ := chk_some hx1716
     have := lenA ([] : List Erratum) errata
     refine apS 8 (enc := encErratum) (l := ([] : List Erratum)) (m := errata) T10.E39 rfl rfl rfl rfl rfl rfl h_errata 5 rfl (fun _ => rfl) (fun _ => rfl) rfl hk1725 fun ad1727 cap1728 => (a1 rfl (on (rt_ ?_)))
     cases hr1726
     intro a w hS hA
     refine ret1 hA rfl rfl ?_
     exact ⟨_, rfl, ⟨ad1727, cap1728, rfl, hS⟩⟩
   ·rintro a w v hA (⟨ad1718, cap1719, rfl, hS⟩)
    refine putK rfl hA hS (a1 rfl (on (sq (rg (m1 rfl ?_)))))
    obtain ⟨l1729, hx1730, hr1731⟩ := bd_some hr1717
    have hln1732 : l1729.length = t1715.length := (sortO_len hx1730)
    refine srtK 8 (enc := encErratum) (V := Va encErratum) (V' := Va encErratum) (fun _ => rfl) (fun _ => rfl) Tryz.srt45 C45 rfl rfl rfl rfl rfl rfl (fun H le => ⟨46, [], [], rfl, C46, fun w_ K_ args_ v_ hK hw hs => by obtain ⟨u0_, u1_, x0_, x1_, r_, rfl, h0_, h1_, hx, rfl⟩ := hs; cases h0_; cases h1_; exact w46  x0_ rfl x1_ rfl  hx⟩) (fun _ _ => rfl) (fun _ _ => rfl) hx1730 (on (sq (rg (m1 rfl (TG.len 8 rfl fun _ => (lnL U39 rfl rfl (m1 rfl (on ?_))))))))
    obtain ⟨e2193, hl2194, hr2195⟩ := bd_some hr1731
    refine jn (fun a w => ∃ t2196, e2193 = .inl t2196 ∧ ∃ (hd2197 : List Hd) (as2198 : List Adr), St M W H [K1212, K714, K711, K9, K5, H] ([(8, Own.list ad1718 cap1719 77 6 encErratum l1729), (6, Own.blk l1214 (O1217 .ready none)), (7, Own.blk dB1215 (.deferred (some []))), (5, Own.list ad444 cap445 93 1 encV hd2197)] ++ grp 95 3 encentry 1000 as2198 t2196) w ∧ Has [] 28 a [] ∧ Grid hd2197 as2198 t2196 ∧ hd2197.length = hd440.length) ?_ ?_
    ·refine bk ?_
     refine lp hl2194 (fun s2201 a w => ∃ (hd2202 : List Hd) (as2203 : List Adr), St M W H [K1212, K714, K711, K9, K5, H] ([(8, Own.list ad1718 cap1719 77 6 encErratum l1729), (6, Own.blk l1214 (O1217 .ready none)), (7, Own.blk dB1215 (.deferred (some []))), (5, Own.list ad444 cap445 93 1 encV hd2202)] ++ grp 95 3 encentry 1000 as2203 s2201.2) w ∧ Has [] 28 a [(0, .func (.yield l1214) #[] #[]), (2, .pointer (some q713)), (11, .slice ad1718 t1715.length cap1719), (12, .int .i64 (t1715.length : Int)), (13, .int .i64 (s2201.1 : Int))] ∧ Grid hd2202 as2203 s2201.2 ∧ hd2202.length = hd440.length) ?_ ?_
     ·intro a w hS hA
      exact ⟨hd440, as441, hS, hA.cut ⟨rfl, rfl, rfl, rfl, rfl, tv⟩, hG442, rfl⟩
     ·rintro j s2201 y2208 hr2206 hz2207 a w ⟨hd2202, as2203, hS, hA, hG2204, hln2205⟩
      refine TG.ap ?_ hS hA
      unfold m35_3 at hr2206
      refine sq (rg (ltI rfl rfl rfl (on (sq ?_))))
      refine ci rfl (fun hc2212 => ?_) (fun hc2212 => ?_)
      ·have hr2213 := if_p hc2212 hr2206
       refine sk (sq (bk (sq (rg ?_))))
       obtain ⟨x2432, hx2433, hr2434⟩ := bd_some hr2213
       refine TG.addr 8 rfl (lt_of0 hx2433) fun b2435 h => ?_; subst h
       refine iaP U39 Z77 rfl rfl rfl rfl (Nat.lt_of_lt_of_eq (lt_of hx2433) hln1732) (ldA G77 Z77 rfl rfl (sE 8 rfl (fun _ => rfl) hx2433) rfl (va (cs := [.int .i64 x2432.number, .int .i64 x2432.day, .int .u8 x2432.kind, .int .i64 x2432.anchor, .string (bs x2432.text), .int .i64 x2432.new_]) Tryz.zeroValue77 Z77 rfl rfl rfl rfl rfl rfl rfl rfl fun q2436 K2437 hK2438 => (on (sq ?_))))
       obtain ⟨t2642, hx2643, hr2644⟩ := bd_some hr2434
       refine jn (fun a w => ∃ (hd2645 : List Hd) (as2646 : List Adr), St M W H [K2437, K1212, K714, K711, K9, K5, H] ([(8, Own.list (some ⟨b2435, 0, none⟩) cap1719 77 6 encErratum l1729), (6, Own.blk l1214 (O1217 .ready none)), (7, Own.blk dB1215 (.deferred (some []))), (5, Own.list ad444 cap445 93 1 encV hd2645)] ++ grp 95 3 encentry 1000 as2646 t2642.2) w ∧ Has [] 28 a [(0, .func (.yield l1214) #[] #[]), (2, .pointer (some q713)), (11, .slice (some ⟨b2435, 0, none⟩) t1715.length cap1719), (12, .int .i64 (t1715.length : Int)), (13, .int .i64 (s2201.1 : Int)), (26, .bool t2642.1)] ∧ Grid hd2645 as2646 t2642.2 ∧ hd2645.length = hd440.length) ?_ ?_
       ·refine rg (fb 1 U77 rfl rfl rfl rfl Z3 (ld G3 rfl rfl (((sS 0 rfl hK2438).drop 1).take 1) rfl (ld G3 rfl rfl (sS 2 rfl hK715) rfl (gtI rfl rfl rfl (m1 rfl ?_)))))
        by_cases hb2649 : to_2 < x2432.day
        ·have hr2650 := if_p hb2649 hx2643
         refine gf' hb2649 rfl (gf' hb2649 rfl (gf' hb2649 rfl (gf' hb2649 rfl (pt hb2649 rfl rfl (on ?_)))))
         cases hr2650
         intro a w hS hA
         exact ⟨hd2202, as2203, hS, hA.cut ⟨rfl, rfl, rfl, rfl, rfl, rfl, tv⟩, hG2204, hln2205⟩
        ·have hr2651 := if_n hb2649 hx2643
         refine gt' hb2649 rfl (m1 rfl (gt' hb2649 rfl (ldA G77 Z77 rfl rfl (sS 0 rfl hK2438) rfl (gt' hb2649 rfl ?_))))
         obtain ⟨t2845, hx2846, hr2847⟩ := bd_some hr2651
         refine yl 6 [] (L1 := (54, .agg [.int .i64 x2432.number, .int .i64 x2432.day, .int .u8 x2432.kind, .int .i64 x2432.anchor, .string (bs x2432.text), .int .i64 x2432.new_].toArray) :: _) rfl rfl rfl hT1218 hO1219 rfl rfl rfl (fun v w => (∃ (hd2848 : List Hd) (as2849 : List Adr), v = .bool true ∧ St M W H [K2437, K1212, K714, K711, K9, K5, H] ([(8, Own.list (some ⟨b2435, 0, none⟩) cap1719 77 6 encErratum l1729), (6, Own.blk l1214 (O1217 .ready none)), (7, Own.blk dB1215 (.deferred (some []))), (5, Own.list ad444 cap445 93 1 encV hd2848)] ++ grp 95 3 encentry 1000 as2849 t2845) w ∧ Grid hd2848 as2849 t2845 ∧ hd2848.length = hd440.length)) ?_ ?_
         ·refine rg (va (cs := [.int .i64 x2432.number, .int .i64 x2432.day, .int .u8 x2432.kind, .int .i64 x2432.anchor, .string (bs x2432.text), .int .i64 x2432.new_]) Tryz.zeroValue77 Z77 rfl rfl rfl rfl rfl rfl rfl rfl fun q2852 K2853 hK2854 => (on (bR 6 hO1219 rfl (bk (sq (rg (ld G91 rfl rfl (sS 5 rfl hK10) rfl (fb 3 U77 rfl rfl rfl rfl Z3 (ld G3 rfl rfl (((sS 0 rfl hK2854).drop 3).take 1) rfl ?_)))))))))
          obtain ⟨t3075, hx3076, hr3077⟩ := bd_some hx2846
          refine clI C41 Tryz.func41 rfl Tryz.ntmps41 rfl rfl rfl rfl (fun v w => (v = .tuple [.int .i64 (t3075.2.1 : Int), .int .i64 (t3075.1 : Int), .bool t3075.2.2].toArray ∧ St M W H [K2853, K2437, K1212, K714, K711, K9, K5, H] ([(8, Own.list (some ⟨b2435, 0, none⟩) cap1719 77 6 encErratum l1729), (6, Own.blk l1214 (O1217 .busy none)), (7, Own.blk dB1215 (.deferred (some []))), (5, Own.list ad444 cap445 93 1 encV hd2202)] ++ grp 95 3 encentry 1000 as2203 s2201.2) w)) ?_ ?_
          ·refine sq (rg (a1 rfl (a1 rfl (a1 rfl (on (sc (sq (lb (sq (sq (rg ?_)))))))))))
           refine m1 rfl (nl rfl rfl (fb 5 U90 rfl rfl rfl rfl Z88 (ld G88 rfl rfl ((sS 2 rfl hK1213).drop 5) rfl (lnE (hln2205.symm.trans hG2204.hlen) U88 rfl rfl (m1 rfl (on ?_))))))
           obtain ⟨e3107, hl3108, hr3109⟩ := bd_some hx3076
           refine jn (fun a w => St M W H [K2853, K2437, K1212, K714, K711, K9, K5, H] ([(8, Own.list (some ⟨b2435, 0, none⟩) cap1719 77 6 encErratum l1729), (6, Own.blk l1214 (O1217 .busy none)), (7, Own.blk dB1215 (.deferred (some []))), (5, Own.list ad444 cap445 93 1 encV hd2202)] ++ grp 95 3 encentry 1000 as2203 s2201.2) w ∧ Has [] 40 a [(4, .int .i64 (e3107.1 : Int)), (5, .int .i64 (e3107.2.1 : Int)), (6, .bool e3107.2.2)]) ?_ ?_
           ·refine bk ?_
            refine lp hl3108 (fun s3110 a w => St M W H [K2853, K2437, K1212, K714, K711, K9, K5, H] ([(8, Own.list (some ⟨b2435, 0, none⟩) cap1719 77 6 encErratum l1729), (6, Own.blk l1214 (O1217 .busy none)), (7, Own.blk dB1215 (.deferred (some []))), (5, Own.list ad444 cap445 93 1 encV hd2202)] ++ grp 95 3 encentry 1000 as2203 s2201.2) w ∧ Has [] 40 a [(1, .int .i64 x2432.anchor), (4, .int .i64 (s3110.1 : Int)), (5, .int .i64 (s3110.2.1 : Int)), (6, .bool s3110.2.2.2), (14, .slice ad444 hd440.length cap445), (15, .int .i64 (s2201.2.length : Int)), (16, .int .i64 (s3110.2.2.1 : Int))]) ?_ ?_
            ·exact cu ⟨rfl, rfl, rfl, rfl, rfl, rfl, rfl, tv⟩
            ·rintro j s3110 y3113 hr3111 hz3112 a w ⟨hS, hA⟩
             refine TG.ap ?_ hS hA
             unfold m35_4 at hr3111
             refine sq (rg (ltI rfl rfl rfl (on (sq ?_))))
             refine ci rfl (fun hc3117 => ?_) (fun hc3117 => ?_)
             ·have hr3118 := if_p hc3117 hr3111
              refine sk (sq (bk (sq (rg (m1 rfl ?_)))))
              obtain ⟨x3142, hx3143, hr3144⟩ := bd_some hr3118
              obtain ⟨ad3145, cap3146, ha3147, hh3148⟩ := hG2204.at hx3143
              refine TG.addr 5 rfl (lt_of0 hh3148) fun b3149 h => ?_; subst h
              refine iaP U88 Z93 rfl rfl rfl rfl (Nat.lt_of_lt_of_eq (lt_of hh3148) hln2205) (ld G93 rfl rfl (sE 5 rfl (fun _ => rfl) hh3148) rfl (a1 rfl (a1 rfl (on (sq (rg (m1 rfl (lnL U93 rfl rfl (m1 rfl (on ?_))))))))))
              obtain ⟨e3164, hl3165, hr3166⟩ := bd_some hr3144
              refine jn (fun a w => ∃ t3167, e3164 = .inl t3167 ∧ St M W H [K2853, K2437, K1212, K714, K711, K9, K5, H] ([(8, Own.list (some ⟨b2435, 0, none⟩) cap1719 77 6 encErratum l1729), (6, Own.blk l1214 (O1217 .busy none)), (7, Own.blk dB1215 (.deferred (some []))), (5, Own.list (some ⟨b3149, 0, none⟩) cap445 93 1 encV hd2202)] ++ grp 95 3 encentry 1000 as2203 s2201.2) w ∧ Has [] 40 a [(1, .int .i64 x2432.anchor), (4, .int .i64 (t3167.1 : Int)), (5, .int .i64 (t3167.2.1 : Int)), (6, .bool t3167.2.2), (14, .slice (some ⟨b3149, 0, none⟩) hd440.length cap445), (15, .int .i64 (s2201.2.length : Int)), (16, .int .i64 (s3110.2.2.1 : Int))]) ?_ ?_
              ·refine bk ?_
               refine lp hl3165 (fun s3168 a w => St M W H [K2853, K2437, K1212, K714, K711, K9, K5, H] ([(8, Own.list (some ⟨b2435, 0, none⟩) cap1719 77 6 encErratum l1729), (6, Own.blk l1214 (O1217 .busy none)), (7, Own.blk dB1215 (.deferred (some []))), (5, Own.list (some ⟨b3149, 0, none⟩) cap445 93 1 encV hd2202)] ++ grp 95 3 encentry 1000 as2203 s2201.2) w ∧ Has [] 40 a [(1, .int .i64 x2432.anchor), (4, .int .i64 (s3168.1 : Int)), (5, .int .i64 (s3168.2.1 : Int)), (6, .bool s3168.2.2.2), (7, .int .i64 (s3110.2.2.1 : Int)), (14, .slice (some ⟨b3149, 0, none⟩) hd440.length cap445), (15, .int .i64 (s2201.2.length : Int)), (16, .int .i64 (s3110.2.2.1 : Int)), (21, .slice ad3145 x3142.length cap3146), (22, .int .i64 (x3142.length : Int)), (23, .int .i64 (s3168.2.2.1 : Int))]) ?_ ?_
               ·exact cu ⟨rfl, rfl, rfl, rfl, rfl, rfl, rfl, rfl, rfl, rfl, rfl, tv⟩
               ·rintro j s3168 y3171 hr3169 hz3170 a w ⟨hS, hA⟩
                refine TG.ap ?_ hS hA
                unfold m35_5 at hr3169
                refine sq (rg (ltI rfl rfl rfl (on (sq ?_))))
                refine ci rfl (fun hc3175 => ?_) (fun hc3175 => ?_)
                ·have hr3176 := if_p hc3175 hr3169
                 refine sk (sq (bk (sq (rg (m1 rfl ?_)))))
                 obtain ⟨x3185, hx3186, hr3187⟩ := bd_some hr3176
                 refine TG.addr (1000 + s3110.2.2.1) (gk rfl (gk rfl (gk rfl (gk rfl (gget ha3147 hx3143))))) (lt_of0 hx3186) fun b3188 h => ?_; subst h
                 refine iaP U93 Z95 rfl rfl rfl rfl (lt_of hx3186) (ldA G95 Z95 rfl rfl (sE (enc := encentry) (size := 3) (1000 + s3110.2.2.1) (gk rfl (gk rfl (gk rfl (gk rfl (gget ha3147 hx3143))))) (fun _ => rfl) hx3186) rfl (al 9 (cs := [.int .i64 0, .string (bs []), .bool false]) Tryz.zeroValue95 rfl rfl fun b3189 => (a1 rfl (sto 9 (cs := [.int .i64 x3185.paragraph.anchor, .string (bs x3185.paragraph.text), .bool x3185.removed]) Z95 rfl rfl rfl rfl rfl rfl rfl (on (sq (rg (fb 0 U95 rfl rfl rfl rfl Z67 (fb 0 U67 rfl rfl rfl rfl Z3 (ld G3 rfl rfl ((sO 9 rfl).take 1) rfl (m1 rfl ?_)))))))))))
                 refine eqI rfl rfl rfl (on ?_)
                 refine ci rfl (fun hc3193 => ?_) (fun hc3193 => ?_)
                 ·have hr3194 := if_p hc3193 hr3187
                  refine sq (rg (m1 rfl (m1 rfl (a1 rfl (a1 rfl (a1 rfl (on (xt rfl ?_))))))))
                  obtain ⟨z3195, hr3196, rfl⟩ := mp_some hr3194
                  obtain rfl := Fin.out hz3170
                  cases hr3166
                  refine TG.del 9 ?_
                  cases hr3196
                  obtain rfl := Fin.out hz3112
                  exact cu ⟨rfl, rfl, rfl, tv⟩
                 ·have hr3197 := if_n hc3193 hr3187
                  refine sk (rg ?_)
                  obtain ⟨hk3198, hr3199⟩ := chk_some hr3197
                  refine adI rfl rfl rfl hk3198 (m1 rfl (on (TG.del 9 ?_)))
                  cases hr3199
                  intro a w hS hA
                  exact ⟨_, hz3170, hS, hA.cut ⟨rfl, rfl, rfl, rfl, rfl, rfl, rfl, rfl, rfl, rfl, rfl, tv⟩⟩
                ·have hr3200 := if_n hc3175 hr3169
                 refine xt rfl ?_
                 cases hr3200
                 obtain rfl := Fin.out hz3170
                 intro a w hS hA
                 exact ⟨_, rfl, hS, hA.cut ⟨rfl, rfl, rfl, rfl, rfl, rfl, rfl, tv⟩⟩
              ·rintro a w ⟨t3167, rfl, hS, hA⟩
               refine TG.ap ?_ hS hA
               refine rg ?_
               obtain ⟨hk3201, hr3202⟩ := chk_some hr3166
               refine adI rfl rfl rfl hk3201 (m1 rfl (on ?_))
               cases hr3202
               intro a w hS hA
               exact ⟨_, hz3112, hS, hA.cut ⟨rfl, rfl, rfl, rfl, rfl, rfl, rfl, tv⟩⟩
             ·have hr3203 := if_n hc3117 hr3111
              refine xt rfl ?_
              cases hr3203
              obtain rfl := Fin.out hz3112
              exact cu ⟨rfl, rfl, rfl, tv⟩
           ·rintro a w ⟨hS, hA⟩
            refine TG.ap ?_ hS hA
            refine sq (rg (m1 rfl (m1 rfl (m1 rfl (a1 rfl (a1 rfl (a1 rfl (on (rt_ ?_)))))))))
            cases hr3109
            intro a w hS hA
            refine ret3 hA rfl rfl rfl rfl ?_
            exact ⟨_, rfl, ⟨rfl, hS⟩⟩
          ·rintro a w v hA (⟨rfl, hS⟩)
           refine putK rfl hA hS (m1 rfl (ex rfl rfl rfl (ex rfl rfl rfl (ex rfl rfl rfl (a1 rfl (a1 rfl (a1 rfl (on (sq (rg (m1 rfl ?_)))))))))))
           refine on ?_
           obtain ⟨t3356, hx3357, hr3358⟩ := bd_some hr3077
           refine jn (fun a w => ∃ (hd3359 : List Hd) (as3360 : List Adr), St M W H [K2853, K2437, K1212, K714, K711, K9, K5, H] ([(8, Own.list (some ⟨b2435, 0, none⟩) cap1719 77 6 encErratum l1729), (6, Own.blk l1214 (O1217 .busy none)), (7, Own.blk dB1215 (.deferred (some []))), (5, Own.list ad444 cap445 93 1 encV hd3359)] ++ grp 95 3 encentry 1000 as3360 t3356) w ∧ Has [] 76 a [] ∧ Grid hd3359 as3360 t3356 ∧ hd3359.length = hd440.length) ?_ ?_
           ·refine cb rfl (fun hc3363 => ?_) (fun hc3363 => ?_)
            ·have hr3364 := if_p hc3363 hx3357
             obtain ⟨r3365, hx3366, hr3367⟩ := bd_some hr3364
             obtain ⟨hk3373, hr3374⟩ := chk_some hr3367
             by_cases hb3375 : x2432.kind = 0
             ·have hr3376 := if_p hb3375 hr3374
              refine drG 10 mixed (by kernel_rfl) rfl ?_
              refine DF.und (α := Addr) default (fun q => .slice (some q) 3 3) (fun (q : Addr) K => CellsAt K q [.func (.func 79) [].toArray [].toArray, .func (.func 80) [].toArray [].toArray, .func (.func 81) [].toArray [].toArray]) (fun _ _ _ h x => x.mono h) (by kernel_rfl) rfl (fun a w K hS hA hF => TG.pa hS hA (clK C56 rfl rfl rfl rfl (fun w H hH le => w56 hH hx3366) (by
                rintro v_ K3377 ⟨q3378, rfl, hK3379⟩
                exact finU (f := fun q => .slice (some q) 3 3) (G := (fun (q : Addr) K => CellsAt K q [.func (.func 79) [].toArray [].toArray, .func (.func 80) [].toArray [].toArray, .func (.func 81) [].toArray [].toArray])) _ (fun _ _ _ h x => x.mono h) hK3379))) fun q3381 => ?_
              refine dt rfl (fb 2 U77 rfl rfl rfl rfl Z5 fin1) (dt rfl (ld G5 rfl rfl (((sS 1 rfl hK2854).drop 2).take 1) rfl fin1) (DF.und () (fun _ => .pointer (some (q3381.add (0 * 1)))) (fun _ K => CellsAt K (q3381.add (0 * 1)) [.func (.func 79) [].toArray [].toArray, .func (.func 80) [].toArray [].toArray, .func (.func 81) [].toArray [].toArray]) (fun _ _ _ h x => x.mono h) (by kernel_rfl) rfl (fun a w K hS hA hF => TG.pa hS hA (iaP (j := 0) U137 Z136 rfl rfl rfl (by omega) (by decide) (finF (f := fun _ => .pointer (some (q3381.add (0 * 1)))) (G := fun _ K => CellsAt K (q3381.add (0 * 1)) [.func (.func 79) [].toArray [].toArray, .func (.func 80) [].toArray [].toArray, .func (.func 81) [].toArray [].toArray]) () ((hF.1 rfl).drop (0 * 1))))) fun _ => (DF.und () (fun _ => .pointer (some (q3381.add (0 * 1)))) (fun _ K => CellsAt K (q3381.add (0 * 1)) [.func (.func 79) [].toArray [].toArray, .func (.func 80) [].toArray [].toArray, .func (.func 81) [].toArray [].toArray]) (fun _ _ _ h x => x.mono h) (by kernel_rfl) rfl (fun a w K hS hA hF => TG.pa hS hA (fb 0 U136 rfl rfl rfl rfl Z134 (finF (f := fun _ => .pointer (some (q3381.add (0 * 1)))) (G := fun _ K => CellsAt K (q3381.add (0 * 1)) [.func (.func 79) [].toArray [].toArray, .func (.func 80) [].toArray [].toArray, .func (.func 81) [].toArray [].toArray]) () (hF.1 rfl)))) fun _ => (DF.det rfl (fun a w K hS hA hF => TG.pa hS hA (ld G134 rfl rfl ((sS 0 rfl (hF.1 rfl)).take 1) rfl fin1)) (dt rfl (ld G91 rfl rfl (sS 6 rfl hK10) rfl fin1) (dt rfl (m1 rfl fin1) (dt rfl (m1 rfl fin1) (dt rfl (ldA G77 Z77 rfl rfl (sS 1 rfl hK2854) rfl fin1) (DF.nil fun K3384 hF => ?_)))))))))
              obtain ⟨hu3383, hu3382, hu3380, _⟩ := hF
              obtain ⟨t3409, hx3410, hr3411⟩ := bd_some hr3376
              refine clI C79 Tryz.func79 rfl Tryz.ntmps79 rfl rfl rfl rfl (fun v w => (∃ (hd3412 : List Hd) (as3413 : List Adr), v = .tuple #[] ∧ St M W H [K3384, K2853, K2437, K1212, K714, K711, K9, K5, H] ([(8, Own.list (some ⟨b2435, 0, none⟩) cap1719 77 6 encErratum l1729), (6, Own.blk l1214 (O1217 .busy none)), (7, Own.blk dB1215 (.deferred (some []))), (5, Own.list ad444 cap445 93 1 encV hd3412)] ++ grp 95 3 encentry 1000 as3413 t3409) w ∧ Grid hd3412 as3413 t3409 ∧ hd3412.length = hd440.length)) ?_ ?_
              ·refine sq (rg (bI (cs := [.int .i64 x2432.number, .int .i64 x2432.day, .int .u8 x2432.kind, .int .i64 x2432.anchor, .string (bs x2432.text), .int .i64 x2432.new_]) rfl rfl rfl fun q3416 K3417 hK3418 => (on (sq (rg (m1 rfl (nl rfl rfl (fb 5 U90 rfl rfl rfl rfl Z88 (ld G88 rfl rfl ((sS 4 rfl hK1213).drop 5) rfl (m1 rfl ?_))))))))))
               obtain ⟨x3419, hx3420, hr3421⟩ := bd_some hx3410
               obtain ⟨ad3422, cap3423, ha3424, hh3425⟩ := hG2204.at hx3420
               refine TG.addr 5 rfl (lt_of0 hh3425) fun b3426 h => ?_; subst h
               refine iaP U88 Z93 rfl rfl rfl rfl (Nat.lt_of_lt_of_eq (lt_of hh3425) hln2205) (ld G93 rfl rfl (sE 5 rfl (fun _ => rfl) hh3425) rfl (m1 rfl ?_))
               obtain ⟨x3427, hx3428, hr3429⟩ := bd_some hr3421
               refine TG.addr (1000 + t3075.2.1) (gk rfl (gk rfl (gk rfl (gk rfl (gget ha3424 hx3420))))) (lt_of0 hx3428) fun b3430 h => ?_; subst h
               refine iaP U93 Z95 rfl rfl rfl rfl (lt_of hx3428) (a1 rfl (on (sq (rg (m1 rfl (nl rfl rfl (fb 2 U95 rfl rfl rfl rfl Z4 (ld G4 rfl rfl ((sE (enc := encentry) (size := 3) (1000 + t3075.2.1) (gk rfl (gk rfl (gk rfl (gk rfl (gget ha3424 hx3420))))) (fun _ => rfl) hx3428).drop 2) rfl (nt rfl rfl (on ?_))))))))))
               obtain ⟨t3435, hx3436, hr3437⟩ := bd_some hr3429
               refine jn (fun a w => ∃ (hd3438 : List Hd) (as3439 : List Adr), St M W H [K3417, K3384, K2853, K2437, K1212, K714, K711, K9, K5, H] ([(8, Own.list (some ⟨b2435, 0, none⟩) cap1719 77 6 encErratum l1729), (6, Own.blk l1214 (O1217 .busy none)), (7, Own.blk dB1215 (.deferred (some []))), (5, Own.list (some ⟨b3426, 0, none⟩) cap445 93 1 encV hd3438)] ++ grp 95 3 encentry 1000 as3439 t3435) w ∧ Has [] 29 a [] ∧ Grid hd3438 as3439 t3435 ∧ hd3438.length = hd440.length) ?_ ?_
               ·refine cb rfl (fun hc3442 => ?_) (fun hc3442 => ?_)
                ·replace hc3442 := nbt hc3442
                 have hr3443 := if_f hc3442 hx3436
                 refine rg (m1 rfl (fb 4 U77 rfl rfl rfl rfl Z9 (ld G9 rfl rfl (((sS 0 rfl hK3418).drop 4).take 1) rfl (nl rfl rfl (fb 0 U95 rfl rfl rfl rfl Z67 (fb 1 U67 rfl rfl rfl rfl Z9 (stE (enc := encentry) (1000 + t3075.2.1) (⟨(⟨x3427.paragraph.anchor, x2432.text⟩ : Paragraph), x3427.removed⟩ : entry) (q := ⟨b3430, 0, none⟩) (j := t3075.1) (size := 3) (cs := [.string (bs x2432.text)]) (off := 1) Z9 (ad3 (b := 0) (c := 1) rfl) rfl (gk rfl (gk rfl (gk rfl (gk rfl (gget ha3424 hx3420))))) (fun _ => rfl) hx3428 rfl rfl rfl rfl rfl (TG.eq (zk rfl (zk rfl (zk rfl (zk rfl (gset ha3424))))) ?_))))))))
                 have hG3444 := hG2204.put hx3420 (lenS x3419 t3075.1 (⟨(⟨x3427.paragraph.anchor, x2432.text⟩ : Paragraph), x3427.removed⟩ : entry))
                 refine on ?_
                 cases hr3443
                 intro a w hS hA
                 exact ⟨hd2202, as2203, hS, hA.cut tv, hG3444, hln2205⟩
                ·replace hc3442 := nbf hc3442
                 have hr3445 := if_p hc3442 hx3436
                 refine sk ?_
                 cases hr3445
                 intro a w hS hA
                 exact ⟨hd2202, as2203, hS, hA.cut tv, hG2204, hln2205⟩
               ·rintro a w ⟨hd3438, as3439, hS, hA, hG3440, hln3441⟩
                refine TG.ap ?_ hS hA
                cases hr3437
                intro a w hS hA
                refine ret0 hA rfl ?_
                exact ⟨_, rfl, ⟨hd3438, as3439, rfl, hS.selH [1, 2, 3, 4, 5, 6, 7, 8, 9] rfl, hG3440, hln3441⟩⟩
              ·rintro a w v hA (⟨hd3412, as3413, rfl, hS, hG3414, hln3415⟩)
               refine putK rfl hA hS (on ?_)
               cases hr3411
               intro a w hS hA
               exact ⟨hd3412, as3413, hS.selH [1, 2, 3, 4, 5, 6, 7, 8] rfl, hA.cut tv, hG3414, hln3415⟩
             ·have hr3446 := if_n hb3375 hr3374
              by_cases hb3452 : x2432.kind = 1
              ·have hr3453 := if_p hb3452 hr3446
               refine drG 10 mixed (by kernel_rfl) rfl ?_
               refine DF.und (α := Addr) default (fun q => .slice (some q) 3 3) (fun (q : Addr) K => CellsAt K q [.func (.func 79) [].toArray [].toArray, .func (.func 80) [].toArray [].toArray, .func (.func 81) [].toArray [].toArray]) (fun _ _ _ h x => x.mono h) (by kernel_rfl) rfl (fun a w K hS hA hF => TG.pa hS hA (clK C56 rfl rfl rfl rfl (fun w H hH le => w56 hH hx3366) (by
                 rintro v_ K3454 ⟨q3455, rfl, hK3456⟩
                 exact finU (f := fun q => .slice (some q) 3 3) (G := (fun (q : Addr) K => CellsAt K q [.func (.func 79) [].toArray [].toArray, .func (.func 80) [].toArray [].toArray, .func (.func 81) [].toArray [].toArray])) _ (fun _ _ _ h x => x.mono h) hK3456))) fun q3458 => ?_
               refine dt rfl (fb 2 U77 rfl rfl rfl rfl Z5 fin1) (dt rfl (ld G5 rfl rfl (((sS 1 rfl hK2854).drop 2).take 1) rfl fin1) (DF.und () (fun _ => .pointer (some (q3458.add (1 * 1)))) (fun _ K => CellsAt K (q3458.add (1 * 1)) [.func (.func 80) [].toArray [].toArray, .func (.func 81) [].toArray [].toArray]) (fun _ _ _ h x => x.mono h) (by kernel_rfl) rfl (fun a w K hS hA hF => TG.pa hS hA (iaP (j := 1) U137 Z136 rfl rfl rfl (by omega) (by decide) (finF (f := fun _ => .pointer (some (q3458.add (1 * 1)))) (G := fun _ K => CellsAt K (q3458.add (1 * 1)) [.func (.func 80) [].toArray [].toArray, .func (.func 81) [].toArray [].toArray]) () ((hF.1 rfl).drop (1 * 1))))) fun _ => (DF.und () (fun _ => .pointer (some (q3458.add (1 * 1)))) (fun _ K => CellsAt K (q3458.add (1 * 1)) [.func (.func 80) [].toArray [].toArray, .func (.func 81) [].toArray [].toArray]) (fun _ _ _ h x => x.mono h) (by kernel_rfl) rfl (fun a w K hS hA hF => TG.pa hS hA (fb 0 U136 rfl rfl rfl rfl Z134 (finF (f := fun _ => .pointer (some (q3458.add (1 * 1)))) (G := fun _ K => CellsAt K (q3458.add (1 * 1)) [.func (.func 80) [].toArray [].toArray, .func (.func 81) [].toArray [].toArray]) () (hF.1 rfl)))) fun _ => (DF.det rfl (fun a w K hS hA hF => TG.pa hS hA (ld G134 rfl rfl ((sS 0 rfl (hF.1 rfl)).take 1) rfl fin1)) (dt rfl (ld G91 rfl rfl (sS 6 rfl hK10) rfl fin1) (dt rfl (m1 rfl fin1) (dt rfl (m1 rfl fin1) (dt rfl (ldA G77 Z77 rfl rfl (sS 1 rfl hK2854) rfl fin1) (DF.nil fun K3461 hF => ?_)))))))))
               obtain ⟨hu3460, hu3459, hu3457, _⟩ := hF
               obtain ⟨t3478, hx3479, hr3480⟩ := bd_some hr3453
               refine clI C80 Tryz.func80 rfl Tryz.ntmps80 rfl rfl rfl rfl (fun v w => (∃ (hd3481 : List Hd) (as3482 : List Adr), v = .tuple #[] ∧ St M W H [K3461, K2853, K2437, K1212, K714, K711, K9, K5, H] ([(8, Own.list (some ⟨b2435, 0, none⟩) cap1719 77 6 encErratum l1729), (6, Own.blk l1214 (O1217 .busy none)), (7, Own.blk dB1215 (.deferred (some []))), (5, Own.list ad444 cap445 93 1 encV hd3481)] ++ grp 95 3 encentry 1000 as3482 t3478) w ∧ Grid hd3481 as3482 t3478 ∧ hd3481.length = hd440.length)) ?_ ?_
               ·refine sq (rg (bI (cs := [.int .i64 x2432.number, .int .i64 x2432.day, .int .u8 x2432.kind, .int .i64 x2432.anchor, .string (bs x2432.text), .int .i64 x2432.new_]) rfl rfl rfl fun q3485 K3486 hK3487 => (on (rg (m1 rfl (nl rfl rfl (fb 5 U90 rfl rfl rfl rfl Z88 (ld G88 rfl rfl ((sS 4 rfl hK1213).drop 5) rfl (m1 rfl ?_)))))))))
                obtain ⟨x3488, hx3489, hr3490⟩ := bd_some hx3479
                obtain ⟨ad3491, cap3492, ha3493, hh3494⟩ := hG2204.at hx3489
                refine TG.addr 5 rfl (lt_of0 hh3494) fun b3495 h => ?_; subst h
                refine iaP U88 Z93 rfl rfl rfl rfl (Nat.lt_of_lt_of_eq (lt_of hh3494) hln2205) (ld G93 rfl rfl (sE 5 rfl (fun _ => rfl) hh3494) rfl (m1 rfl ?_))
                obtain ⟨x3496, hx3497, hr3498⟩ := bd_some hr3490
                refine TG.addr (1000 + t3075.2.1) (gk rfl (gk rfl (gk rfl (gk rfl (gget ha3493 hx3489))))) (lt_of0 hx3497) fun b3499 h => ?_; subst h
                refine iaP U93 Z95 rfl rfl rfl rfl (lt_of hx3497) (fb 2 U95 rfl rfl rfl rfl Z4 (stE (enc := encentry) (1000 + t3075.2.1) (⟨x3496.paragraph, true⟩ : entry) (q := ⟨b3499, 0, none⟩) (j := t3075.1) (size := 3) (cs := [.bool true]) (off := 2) Z4 (ad2 (b := 2) rfl) rfl (gk rfl (gk rfl (gk rfl (gk rfl (gget ha3493 hx3489))))) (fun _ => rfl) hx3497 rfl rfl rfl rfl rfl (TG.eq (zk rfl (zk rfl (zk rfl (zk rfl (gset ha3493))))) ?_)))
                have hG3500 := hG2204.put hx3489 (lenS x3488 t3075.1 (⟨x3496.paragraph, true⟩ : entry))
                refine on ?_
                cases hr3498
                intro a w hS hA
                refine ret0 hA rfl ?_
                exact ⟨_, rfl, ⟨hd2202, as2203, rfl, hS.selH [1, 2, 3, 4, 5, 6, 7, 8, 9] rfl, hG3500, hln2205⟩⟩
               ·rintro a w v hA (⟨hd3481, as3482, rfl, hS, hG3483, hln3484⟩)
                refine putK rfl hA hS (on ?_)
                cases hr3480
                intro a w hS hA
                exact ⟨hd3481, as3482, hS.selH [1, 2, 3, 4, 5, 6, 7, 8] rfl, hA.cut tv, hG3483, hln3484⟩
              ·have hr3501 := if_n hb3452 hr3446
               by_cases hb3507 : x2432.kind = 2
               ·have hr3508 := if_p hb3507 hr3501
                refine drG 10 mixed (by kernel_rfl) rfl ?_
                refine DF.und (α := Addr) default (fun q => .slice (some q) 3 3) (fun (q : Addr) K => CellsAt K q [.func (.func 79) [].toArray [].toArray, .func (.func 80) [].toArray [].toArray, .func (.func 81) [].toArray [].toArray]) (fun _ _ _ h x => x.mono h) (by kernel_rfl) rfl (fun a w K hS hA hF => TG.pa hS hA (clK C56 rfl rfl rfl rfl (fun w H hH le => w56 hH hx3366) (by
                  rintro v_ K3509 ⟨q3510, rfl, hK3511⟩
                  exact finU (f := fun q => .slice (some q) 3 3) (G := (fun (q : Addr) K => CellsAt K q [.func (.func 79) [].toArray [].toArray, .func (.func 80) [].toArray [].toArray, .func (.func 81) [].toArray [].toArray])) _ (fun _ _ _ h x => x.mono h) hK3511))) fun q3513 => ?_
                refine dt rfl (fb 2 U77 rfl rfl rfl rfl Z5 fin1) (dt rfl (ld G5 rfl rfl (((sS 1 rfl hK2854).drop 2).take 1) rfl fin1) (DF.und () (fun _ => .pointer (some (q3513.add (2 * 1)))) (fun _ K => CellsAt K (q3513.add (2 * 1)) [.func (.func 81) [].toArray [].toArray]) (fun _ _ _ h x => x.mono h) (by kernel_rfl) rfl (fun a w K hS hA hF => TG.pa hS hA (iaP (j := 2) U137 Z136 rfl rfl rfl (by omega) (by decide) (finF (f := fun _ => .pointer (some (q3513.add (2 * 1)))) (G := fun _ K => CellsAt K (q3513.add (2 * 1)) [.func (.func 81) [].toArray [].toArray]) () ((hF.1 rfl).drop (2 * 1))))) fun _ => (DF.und () (fun _ => .pointer (some (q3513.add (2 * 1)))) (fun _ K => CellsAt K (q3513.add (2 * 1)) [.func (.func 81) [].toArray [].toArray]) (fun _ _ _ h x => x.mono h) (by kernel_rfl) rfl (fun a w K hS hA hF => TG.pa hS hA (fb 0 U136 rfl rfl rfl rfl Z134 (finF (f := fun _ => .pointer (some (q3513.add (2 * 1)))) (G := fun _ K => CellsAt K (q3513.add (2 * 1)) [.func (.func 81) [].toArray [].toArray]) () (hF.1 rfl)))) fun _ => (DF.det rfl (fun a w K hS hA hF => TG.pa hS hA (ld G134 rfl rfl (sS 0 rfl (hF.1 rfl)) rfl fin1)) (dt rfl (ld G91 rfl rfl (sS 6 rfl hK10) rfl fin1) (dt rfl (m1 rfl fin1) (dt rfl (m1 rfl fin1) (dt rfl (ldA G77 Z77 rfl rfl (sS 1 rfl hK2854) rfl fin1) (DF.nil fun K3516 hF => ?_)))))))))
                obtain ⟨hu3515, hu3514, hu3512, _⟩ := hF
                obtain ⟨t3547, hx3548, hr3549⟩ := bd_some hr3508
                refine clI C81 Tryz.func81 rfl Tryz.ntmps81 rfl rfl rfl rfl (fun v w => (∃ (hd3550 : List Hd) (as3551 : List Adr), v = .tuple #[] ∧ St M W H [K3516, K2853, K2437, K1212, K714, K711, K9, K5, H] ([(8, Own.list (some ⟨b2435, 0, none⟩) cap1719 77 6 encErratum l1729), (6, Own.blk l1214 (O1217 .busy none)), (7, Own.blk dB1215 (.deferred (some []))), (5, Own.list ad444 cap445 93 1 encV hd3550)] ++ grp 95 3 encentry 1000 as3551 t3547) w ∧ Grid hd3550 as3551 t3547 ∧ hd3550.length = hd440.length)) ?_ ?_
                ·refine sq (rg (bI (cs := [.int .i64 x2432.number, .int .i64 x2432.day, .int .u8 x2432.kind, .int .i64 x2432.anchor, .string (bs x2432.text), .int .i64 x2432.new_]) rfl rfl rfl fun q3554 K3555 hK3556 => (on ?_)))
                 obtain ⟨x3557, hx3558, hr3559⟩ := bd_some hx3548
                 obtain ⟨ad3560, cap3561, ha3562, hh3563⟩ := hG2204.at hx3558
                 refine TG.addr 5 rfl (lt_of0 hh3563) fun b3564 h => ?_; subst h
                 obtain ⟨hk3565, hr3566⟩ := chk_some hr3559
                 refine TG.focus [(8, Own.list (some ⟨b2435, 0, none⟩) cap1719 77 6 encErratum l1729), (6, Own.blk l1214 (O1217 .busy none)), (7, Own.blk dB1215 (.deferred (some []))), (5, Own.list (some ⟨b3564, 0, none⟩) cap445 93 1 encV hd2202)] 10 (b := 1000) ha3562 hx3558 ?_
                 obtain ⟨hk3575, hr3576⟩ := chk_some hr3566
                 obtain ⟨hk3577, hr3578⟩ := chk_some hr3576
                 refine drG2 22 21 mixed (by kernel_rfl) rfl rfl (DG.detA rfl rfl rfl (fun τ a w K hS hA hF => TG.pa hS hA (m1 rfl fin1)) (DG.detA rfl rfl rfl (fun τ a w K hS hA hF => TG.pa hS hA (nl rfl rfl fin1)) (DG.detA rfl rfl rfl (fun τ a w K hS hA hF => TG.pa hS hA (fb 5 U90 rfl rfl rfl rfl Z88 fin1)) (DG.detA rfl rfl rfl (fun τ a w K hS hA hF => TG.pa hS hA (ld G88 rfl rfl ((sS 5 rfl hK1213).drop 5) rfl fin1)) (DG.detA rfl rfl rfl (fun τ a w K hS hA hF => TG.pa hS hA (m1 rfl fin1)) (DG.det (fun τ => τ = ([(10, Own.list ad3560 cap3561 95 3 encentry x3557), (8, Own.list (some ⟨b2435, 0, none⟩) cap1719 77 6 encErratum l1729), (6, Own.blk l1214 (O1217 .busy none)), (7, Own.blk dB1215 (.deferred (some []))), (5, Own.list (some ⟨b3564, 0, none⟩) cap445 93 1 encV hd2202)] ++ grp 95 3 encentry 1000 (as2203.set t3075.2.1 (none, 0)) (s2201.2.set t3075.2.1 []))) rfl rfl (.inr (by kernel_rfl)) (fun _ h => by cases h) rfl rfl (fun τ hτ a w K hS hA hF => by subst hτ <;> exact TG.pa hS hA (m1 rfl fin1)) (DG.det (fun τ => τ = ([(10, Own.list ad3560 cap3561 95 3 encentry x3557), (8, Own.list (some ⟨b2435, 0, none⟩) cap1719 77 6 encErratum l1729), (6, Own.blk l1214 (O1217 .busy none)), (7, Own.blk dB1215 (.deferred (some []))), (5, Own.list (some ⟨b3564, 0, none⟩) cap445 93 1 encV hd2202)] ++ grp 95 3 encentry 1000 (as2203.set t3075.2.1 (none, 0)) (s2201.2.set t3075.2.1 []))) rfl rfl (.inr (by kernel_rfl)) (fun _ h => by cases h) rfl rfl (fun τ hτ a w K hS hA hF => by subst hτ <;> exact TG.pa hS hA (nl rfl rfl fin1)) (DG.det (fun τ => τ = ([(10, Own.list ad3560 cap3561 95 3 encentry x3557), (8, Own.list (some ⟨b2435, 0, none⟩) cap1719 77 6 encErratum l1729), (6, Own.blk l1214 (O1217 .busy none)), (7, Own.blk dB1215 (.deferred (some []))), (5, Own.list (some ⟨b3564, 0, none⟩) cap445 93 1 encV hd2202)] ++ grp 95 3 encentry 1000 (as2203.set t3075.2.1 (none, 0)) (s2201.2.set t3075.2.1 []))) rfl rfl (.inr (by kernel_rfl)) (fun _ h => by cases h) rfl rfl (fun τ hτ a w K hS hA hF => by subst hτ <;> exact TG.pa hS hA (fb 5 U90 rfl rfl rfl rfl Z88 fin1)) (DG.det (fun τ => τ = ([(10, Own.list ad3560 cap3561 95 3 encentry x3557), (8, Own.list (some ⟨b2435, 0, none⟩) cap1719 77 6 encErratum l1729), (6, Own.blk l1214 (O1217 .busy none)), (7, Own.blk dB1215 (.deferred (some []))), (5, Own.list (some ⟨b3564, 0, none⟩) cap445 93 1 encV hd2202)] ++ grp 95 3 encentry 1000 (as2203.set t3075.2.1 (none, 0)) (s2201.2.set t3075.2.1 []))) rfl rfl (.inr (by kernel_rfl)) (fun _ h => by cases h) rfl rfl (fun τ hτ a w K hS hA hF => by subst hτ <;> exact TG.pa hS hA (ld G88 rfl rfl ((sS 5 rfl hK1213).drop 5) rfl fin1)) (DG.det (fun τ => τ = ([(10, Own.list ad3560 cap3561 95 3 encentry x3557), (8, Own.list (some ⟨b2435, 0, none⟩) cap1719 77 6 encErratum l1729), (6, Own.blk l1214 (O1217 .busy none)), (7, Own.blk dB1215 (.deferred (some []))), (5, Own.list (some ⟨b3564, 0, none⟩) cap445 93 1 encV hd2202)] ++ grp 95 3 encentry 1000 (as2203.set t3075.2.1 (none, 0)) (s2201.2.set t3075.2.1 []))) rfl rfl (.inr (by kernel_rfl)) (fun _ h => by cases h) rfl rfl (fun τ hτ a w K hS hA hF => by subst hτ <;> exact TG.pa hS hA (m1 rfl fin1)) (DG.det (fun τ => τ = ([(10, Own.list ad3560 cap3561 95 3 encentry x3557), (8, Own.list (some ⟨b2435, 0, none⟩) cap1719 77 6 encErratum l1729), (6, Own.blk l1214 (O1217 .busy none)), (7, Own.blk dB1215 (.deferred (some []))), (5, Own.list (some ⟨b3564, 0, none⟩) cap445 93 1 encV hd2202)] ++ grp 95 3 encentry 1000 (as2203.set t3075.2.1 (none, 0)) (s2201.2.set t3075.2.1 []))) rfl rfl (.inr (by kernel_rfl)) (fun _ h => by cases h) rfl rfl (fun τ hτ a w K hS hA hF => by subst hτ <;> exact TG.pa hS hA (iaP U88 Z93 rfl rfl rfl rfl (Nat.lt_of_lt_of_eq (lt_of hh3563) hln2205) fin1)) ?_)))))))))))
                 refine DG.det (fun τ => τ = ([(10, Own.list ad3560 cap3561 95 3 encentry x3557), (8, Own.list (some ⟨b2435, 0, none⟩) cap1719 77 6 encErratum l1729), (6, Own.blk l1214 (O1217 .busy none)), (7, Own.blk dB1215 (.deferred (some []))), (5, Own.list (some ⟨b3564, 0, none⟩) cap445 93 1 encV hd2202)] ++ grp 95 3 encentry 1000 (as2203.set t3075.2.1 (none, 0)) (s2201.2.set t3075.2.1 []))) rfl rfl (.inr (by kernel_rfl)) (fun _ h => by cases h) rfl rfl (fun τ hτ a w K hS hA hF => by subst hτ <;> exact TG.pa hS hA (ld G93 rfl rfl (sE 5 rfl (fun _ => rfl) hh3563) rfl fin1)) (DG.det (fun τ => τ = ([(10, Own.list ad3560 cap3561 95 3 encentry x3557), (8, Own.list (some ⟨b2435, 0, none⟩) cap1719 77 6 encErratum l1729), (6, Own.blk l1214 (O1217 .busy none)), (7, Own.blk dB1215 (.deferred (some []))), (5, Own.list (some ⟨b3564, 0, none⟩) cap445 93 1 encV hd2202)] ++ grp 95 3 encentry 1000 (as2203.set t3075.2.1 (none, 0)) (s2201.2.set t3075.2.1 []))) rfl rfl (.inr (by kernel_rfl)) (fun _ h => by cases h) rfl rfl (fun τ hτ a w K hS hA hF => by subst hτ <;> exact TG.pa hS hA (m1 rfl fin1)) (DG.det (fun τ => τ = ([(10, Own.list ad3560 cap3561 95 3 encentry x3557), (8, Own.list (some ⟨b2435, 0, none⟩) cap1719 77 6 encErratum l1729), (6, Own.blk l1214 (O1217 .busy none)), (7, Own.blk dB1215 (.deferred (some []))), (5, Own.list (some ⟨b3564, 0, none⟩) cap445 93 1 encV hd2202)] ++ grp 95 3 encentry 1000 (as2203.set t3075.2.1 (none, 0)) (s2201.2.set t3075.2.1 []))) rfl rfl (.inr (by kernel_rfl)) (fun _ h => by cases h) rfl rfl (fun τ hτ a w K hS hA hF => by subst hτ <;> exact TG.pa hS hA (adI rfl rfl rfl hk3565 fin1)) (DG.det (fun τ => τ = ([(10, Own.list ad3560 cap3561 95 3 encentry x3557), (8, Own.list (some ⟨b2435, 0, none⟩) cap1719 77 6 encErratum l1729), (6, Own.blk l1214 (O1217 .busy none)), (7, Own.blk dB1215 (.deferred (some []))), (5, Own.list (some ⟨b3564, 0, none⟩) cap445 93 1 encV hd2202)] ++ grp 95 3 encentry 1000 (as2203.set t3075.2.1 (none, 0)) (s2201.2.set t3075.2.1 []))) rfl rfl (.inr (by kernel_rfl)) (fun _ h => by cases h) rfl rfl (fun τ hτ a w K hS hA hF => by subst hτ <;> exact TG.pa hS hA (fb 5 U77 rfl rfl rfl rfl Z3 fin1)) (DG.det (fun τ => τ = ([(10, Own.list ad3560 cap3561 95 3 encentry x3557), (8, Own.list (some ⟨b2435, 0, none⟩) cap1719 77 6 encErratum l1729), (6, Own.blk l1214 (O1217 .busy none)), (7, Own.blk dB1215 (.deferred (some []))), (5, Own.list (some ⟨b3564, 0, none⟩) cap445 93 1 encV hd2202)] ++ grp 95 3 encentry 1000 (as2203.set t3075.2.1 (none, 0)) (s2201.2.set t3075.2.1 []))) rfl rfl (.inr (by kernel_rfl)) (fun _ h => by cases h) rfl rfl (fun τ hτ a w K hS hA hF => by subst hτ <;> exact TG.pa hS hA (ld G3 rfl rfl ((sS 1 rfl hK3556).drop 5) rfl fin1)) (DG.det (fun τ => τ = ([(10, Own.list ad3560 cap3561 95 3 encentry x3557), (8, Own.list (some ⟨b2435, 0, none⟩) cap1719 77 6 encErratum l1729), (6, Own.blk l1214 (O1217 .busy none)), (7, Own.blk dB1215 (.deferred (some []))), (5, Own.list (some ⟨b3564, 0, none⟩) cap445 93 1 encV hd2202)] ++ grp 95 3 encentry 1000 (as2203.set t3075.2.1 (none, 0)) (s2201.2.set t3075.2.1 []))) rfl rfl (.inr (by kernel_rfl)) (fun _ h => by cases h) rfl rfl (fun τ hτ a w K hS hA hF => by subst hτ <;> exact TG.pa hS hA (fb 4 U77 rfl rfl rfl rfl Z9 fin1)) (DG.det (fun τ => τ = ([(10, Own.list ad3560 cap3561 95 3 encentry x3557), (8, Own.list (some ⟨b2435, 0, none⟩) cap1719 77 6 encErratum l1729), (6, Own.blk l1214 (O1217 .busy none)), (7, Own.blk dB1215 (.deferred (some []))), (5, Own.list (some ⟨b3564, 0, none⟩) cap445 93 1 encV hd2202)] ++ grp 95 3 encentry 1000 (as2203.set t3075.2.1 (none, 0)) (s2201.2.set t3075.2.1 []))) rfl rfl (.inr (by kernel_rfl)) (fun _ h => by cases h) rfl rfl (fun τ hτ a w K hS hA hF => by subst hτ <;> exact TG.pa hS hA (ld G9 rfl rfl (((sS 1 rfl hK3556).drop 4).take 1) rfl fin1)) (DG.det (fun τ => τ = ([(10, Own.list ad3560 cap3561 95 3 encentry x3557), (8, Own.list (some ⟨b2435, 0, none⟩) cap1719 77 6 encErratum l1729), (6, Own.blk l1214 (O1217 .busy none)), (7, Own.blk dB1215 (.deferred (some []))), (5, Own.list (some ⟨b3564, 0, none⟩) cap445 93 1 encV hd2202)] ++ grp 95 3 encentry 1000 (as2203.set t3075.2.1 (none, 0)) (s2201.2.set t3075.2.1 []))) rfl rfl (.inr (by kernel_rfl)) (fun _ h => by cases h) rfl rfl (fun τ hτ a w K hS hA hF => by subst hτ <;> exact TG.pa hS hA (bu (cs := [.int .i64 x2432.new_, .string (bs x2432.text)]) T10.B67 rfl rfl rfl fin1)) (DG.det (fun τ => τ = ([(10, Own.list ad3560 cap3561 95 3 encentry x3557), (8, Own.list (some ⟨b2435, 0, none⟩) cap1719 77 6 encErratum l1729), (6, Own.blk l1214 (O1217 .busy none)), (7, Own.blk dB1215 (.deferred (some []))), (5, Own.list (some ⟨b3564, 0, none⟩) cap445 93 1 encV hd2202)] ++ grp 95 3 encentry 1000 (as2203.set t3075.2.1 (none, 0)) (s2201.2.set t3075.2.1 []))) rfl rfl (.inr (by kernel_rfl)) (fun _ h => by cases h) rfl rfl (fun τ hτ a w K hS hA hF => by subst hτ <;> exact TG.pa hS hA (bu (cs := [.int .i64 x2432.new_, .string (bs x2432.text), .bool false]) T10.B95 rfl rfl rfl fin1)) ?_))))))))
                 refine DG.und (α := Option Addr × Nat) (none, 0) (fun q => .slice q.1 1 q.2) (fun (q : Option Addr × Nat) K => Sl (Flat encentry) 3 K q.1 q.2 ([(⟨(⟨x2432.new_, x2432.text⟩ : Paragraph), false⟩ : entry)] : List entry)) (fun τ => τ = ([(10, Own.list ad3560 cap3561 95 3 encentry x3557), (8, Own.list (some ⟨b2435, 0, none⟩) cap1719 77 6 encErratum l1729), (6, Own.blk l1214 (O1217 .busy none)), (7, Own.blk dB1215 (.deferred (some []))), (5, Own.list (some ⟨b3564, 0, none⟩) cap445 93 1 encV hd2202)] ++ grp 95 3 encentry 1000 (as2203.set t3075.2.1 (none, 0)) (s2201.2.set t3075.2.1 []))) rfl rfl (.inr (by kernel_rfl)) (fun _ h => by cases h) (fun _ _ _ h x => x.mono (Flat.mono _) h) (by kernel_rfl) rfl rfl (fun τ hτ a w K hS hA hF => by subst hτ <;> exact TG.pa hS hA (bS (cs := [.int .i64 x2432.new_, .string (bs x2432.text), .bool false]) T10.E93 rfl rfl rfl rfl fun q3567 K3568 hq3569 hK3570 => by
                   have hl3571 : Sl (Flat encentry) 3 K3568 (some q3567) 1 ([(⟨(⟨x2432.new_, x2432.text⟩ : Paragraph), false⟩ : entry)] : List entry) := Sl.litR (css := [[.int .i64 x2432.new_, .string (bs x2432.text), .bool false]]) (l := ([(⟨(⟨x2432.new_, x2432.text⟩ : Paragraph), false⟩ : entry)] : List entry)) ⟨⟨rfl, rfl, rfl⟩, tv⟩ hq3569 hK3570 rfl
                   have := hl3571.len
                   exact finU (f := fun q => .slice q.1 1 q.2) (G := (fun (q : Option Addr × Nat) K => Sl (Flat encentry) 3 K q.1 q.2 ([(⟨(⟨x2432.new_, x2432.text⟩ : Paragraph), false⟩ : entry)] : List entry))) (_, _) (fun _ _ _ h x => x.mono (Flat.mono _) h) hl3571)) ?_
                 rintro ⟨ad3573, cap3574⟩
                 refine DG.turn (α := Option Addr × Nat) (none, 0) (fun q => .slice q.1 ((x3557.take (((t3075.1 : Int) + 1).toNat) ++ [(⟨(⟨x2432.new_, x2432.text⟩ : Paragraph), false⟩ : entry)] ++ x3557.drop (((t3075.1 : Int) + 1).toNat)).length) q.2) (fun _ _ => True) (fun q => ([(10, Own.list q.1 q.2 95 3 encentry (x3557.take (((t3075.1 : Int) + 1).toNat) ++ [(⟨(⟨x2432.new_, x2432.text⟩ : Paragraph), false⟩ : entry)] ++ x3557.drop (((t3075.1 : Int) + 1).toNat))), (8, Own.list (some ⟨b2435, 0, none⟩) cap1719 77 6 encErratum l1729), (6, Own.blk l1214 (O1217 .busy none)), (7, Own.blk dB1215 (.deferred (some []))), (5, Own.list (some ⟨b3564, 0, none⟩) cap445 93 1 encV hd2202)] ++ grp 95 3 encentry 1000 (as2203.set t3075.2.1 (none, 0)) (s2201.2.set t3075.2.1 []))) rfl (fun _ _ _ _ h => h) (by kernel_rfl) rfl rfl (fun a w K hS hA hF => TG.pa hS hA (insO 10 (enc := encentry) rfl (fun _ => rfl) (fun _ => rfl) (((t3075.1 : Int) + 1).toNat) (⟨(⟨x2432.new_, x2432.text⟩ : Paragraph), false⟩ : entry) (l := x3557) Tryz.ins82 C82 rfl rfl rfl rfl rfl rfl rfl (hF.1 rfl) 0 rfl (by omega) hk3577 hk3575 fun ad3579 cap3580 => finT (f := fun q => .slice q.1 ((x3557.take (((t3075.1 : Int) + 1).toNat) ++ [(⟨(⟨x2432.new_, x2432.text⟩ : Paragraph), false⟩ : entry)] ++ x3557.drop (((t3075.1 : Int) + 1).toNat)).length) q.2) (G := fun _ _ => True) (σ1 := fun q => ([(10, Own.list q.1 q.2 95 3 encentry (x3557.take (((t3075.1 : Int) + 1).toNat) ++ [(⟨(⟨x2432.new_, x2432.text⟩ : Paragraph), false⟩ : entry)] ++ x3557.drop (((t3075.1 : Int) + 1).toNat))), (8, Own.list (some ⟨b2435, 0, none⟩) cap1719 77 6 encErratum l1729), (6, Own.blk l1214 (O1217 .busy none)), (7, Own.blk dB1215 (.deferred (some []))), (5, Own.list (some ⟨b3564, 0, none⟩) cap445 93 1 encV hd2202)] ++ grp 95 3 encentry 1000 (as2203.set t3075.2.1 (none, 0)) (s2201.2.set t3075.2.1 []))) (_, _) tv)) ?_
                 rintro ⟨ad3579, cap3580⟩
                 refine DG.nil fun K3581 hF => ?_
                 obtain ⟨_, hu3572, _⟩ := hF
                 have := hu3572.len
                 refine iaP U88 Z93 rfl rfl rfl rfl (Nat.lt_of_lt_of_eq (lt_of hh3563) hln2205) (stE 5 (ad3579, (x3557.take (((t3075.1 : Int) + 1).toNat) ++ [(⟨(⟨x2432.new_, x2432.text⟩ : Paragraph), false⟩ : entry)] ++ x3557.drop (((t3075.1 : Int) + 1).toNat)).length, cap3580) (q := ⟨b3564, 0, none⟩) (j := t3075.2.1) (size := 1) (cs := [(Value.slice ad3579 (x3557.take (((t3075.1 : Int) + 1).toNat) ++ [(⟨(⟨x2432.new_, x2432.text⟩ : Paragraph), false⟩ : entry)] ++ x3557.drop (((t3075.1 : Int) + 1).toNat)).length cap3580)]) (off := 0) Z93 rfl rfl rfl (fun _ => rfl) hh3563 rfl rfl rfl rfl rfl (TG.absorb [(10, Own.list ad3579 cap3580 95 3 encentry (x3557.take (((t3075.1 : Int) + 1).toNat) ++ [(⟨(⟨x2432.new_, x2432.text⟩ : Paragraph), false⟩ : entry)] ++ x3557.drop (((t3075.1 : Int) + 1).toNat))), (8, Own.list (some ⟨b2435, 0, none⟩) cap1719 77 6 encErratum l1729), (6, Own.blk l1214 (O1217 .busy none)), (7, Own.blk dB1215 (.deferred (some []))), (5, Own.list (some ⟨b3564, 0, none⟩) cap445 93 1 encV (hd2202.set t3075.2.1 (ad3579, (x3557.take (((t3075.1 : Int) + 1).toNat) ++ [(⟨(⟨x2432.new_, x2432.text⟩ : Paragraph), false⟩ : entry)] ++ x3557.drop (((t3075.1 : Int) + 1).toNat)).length, cap3580)))] (B := [(8, Own.list (some ⟨b2435, 0, none⟩) cap1719 77 6 encErratum l1729), (6, Own.blk l1214 (O1217 .busy none)), (7, Own.blk dB1215 (.deferred (some []))), (5, Own.list (some ⟨b3564, 0, none⟩) cap445 93 1 encV (hd2202.set t3075.2.1 (ad3579, (x3557.take (((t3075.1 : Int) + 1).toNat) ++ [(⟨(⟨x2432.new_, x2432.text⟩ : Paragraph), false⟩ : entry)] ++ x3557.drop (((t3075.1 : Int) + 1).toNat)).length, cap3580)))]) 10 (b := 1000) (j := t3075.2.1) rfl rfl (TG.eq (by rw [List.set_set, List.set_set]) ?_)))
                 have hG3582 := hG2204.new t3075.2.1 (x3557.take (((t3075.1 : Int) + 1).toNat) ++ [(⟨(⟨x2432.new_, x2432.text⟩ : Paragraph), false⟩ : entry)] ++ x3557.drop (((t3075.1 : Int) + 1).toNat)) ad3579 cap3580
                 have hln3583 : (hd2202.set t3075.2.1 (ad3579, (x3557.take (((t3075.1 : Int) + 1).toNat) ++ [(⟨(⟨x2432.new_, x2432.text⟩ : Paragraph), false⟩ : entry)] ++ x3557.drop (((t3075.1 : Int) + 1).toNat)).length, cap3580)).length = hd440.length := (lenS _ _ _).trans hln2205
                 refine on ?_
                 cases hr3578
                 intro a w hS hA
                 refine ret0 hA rfl ?_
                 exact ⟨_, rfl, ⟨(hd2202.set t3075.2.1 (ad3579, (x3557.take (((t3075.1 : Int) + 1).toNat) ++ [(⟨(⟨x2432.new_, x2432.text⟩ : Paragraph), false⟩ : entry)] ++ x3557.drop (((t3075.1 : Int) + 1).toNat)).length, cap3580)), (as2203.set t3075.2.1 (ad3579, cap3580)), rfl, hS.selH [2, 3, 4, 5, 6, 7, 8, 9, 10] rfl, hG3582, hln3583⟩⟩
                ·rintro a w v hA (⟨hd3550, as3551, rfl, hS, hG3552, hln3553⟩)
                 refine putK rfl hA hS (on ?_)
                 cases hr3549
                 intro a w hS hA
                 exact ⟨hd3550, as3551, hS.selH [1, 2, 3, 4, 5, 6, 7, 8] rfl, hA.cut tv, hG3552, hln3553⟩
               ·have hr3584 := if_n hb3507 hr3501
                cases hr3584
            ·have hr3590 := if_f hc3363 hx3357
             refine sk ?_
             cases hr3590
             intro a w hS hA
             exact ⟨hd2202, as2203, hS, hA.cut tv, hG2204, hln2205⟩
           ·rintro a w ⟨hd3359, as3360, hS, hA, hG3361, hln3362⟩
            refine TG.ap ?_ hS hA
            cases hr3358
            refine eR 6 none hO1219 rfl fun w hS => ?_
            exact ⟨hd3359, as3360, rfl, hS.selH [1, 2, 3, 4, 5, 6, 7] rfl, hG3361, hln3362⟩
         ·rintro a w v hA (⟨hd2848, as2849, rfl, hS, hG2850, hln2851⟩)
          refine putK rfl hA hS (gt' hb2649 rfl (nt rfl rfl (pf hb2649 rfl rfl (on ?_))))
          cases hr2847
          intro a w hS hA
          exact ⟨hd2848, as2849, hS, hA.cut ⟨rfl, rfl, rfl, rfl, rfl, rfl, tv⟩, hG2850, hln2851⟩
       ·rintro a w ⟨hd2645, as2646, hS, hA, hG2647, hln2648⟩
        refine TG.ap ?_ hS hA
        refine cb rfl (fun hc3594 => ?_) (fun hc3594 => ?_)
        ·have hr3595 := if_p hc3594 hr2644
         refine rt_ ?_
         cases hr3595
         obtain rfl := Fin.out hz2207
         refine TG.del 8 ?_
         cases hr2195
         intro a w hS hA
         refine ret0 hA rfl ?_
         exact ⟨_, rfl, ⟨hd2645, as2646, hS.selH [1, 2, 3, 4, 5, 6] rfl, hG2647, hln2648⟩⟩
        ·have hr3596 := if_f hc3594 hr2644
         refine sk (rg (adI rfl rfl rfl (by omega) (m1 rfl (on ?_))))
         cases hr3596
         intro a w hS hA
         exact ⟨_, hz2207, hd2645, as2646, hS.selH [1, 2, 3, 4, 5, 6] rfl, hA.cut ⟨rfl, rfl, rfl, rfl, rfl, tv⟩, hG2647, hln2648⟩
      ·have hr3597 := if_n hc2212 hr2206
       refine xt rfl ?_
       cases hr3597
       obtain rfl := Fin.out hz2207
       intro a w hS hA
       exact ⟨_, rfl, hd2202, as2203, hS, hA.cut tv, hG2204, hln2205⟩
    ·rintro a w ⟨t2196, rfl, hd2197, as2198, hS, hA, hG2199, hln2200⟩
     refine TG.ap ?_ hS hA
     refine TG.del 8 ?_
     cases hr2195
     intro a w hS hA
     refine ret0 hA rfl ?_
     exact ⟨_, rfl, ⟨hd2197, as2198, hS, hG2199, hln2200⟩⟩
  ·rintro l1214 dB1215 O1217 tm1216 a w hO1219 hA (⟨hd1704, as1705, hS, hG1706, hln1707⟩)
   refine TG.ap ?_ hS hA
   refine elN 6 hO1219 rfl (sq (rg (ld G91 rfl rfl (sS 3 rfl hK10) rfl (a1 rfl (on (rt_ (TG.stillG [(7, Own.blk dB1215 (.deferred (some []))), (5, Own.list ad444 cap445 93 1 encV hd1704)] (B := [(7, Own.blk dB1215 (.deferred (some [])))]) 5 (b := 1000) hG1706 rfl rfl (fun _ => rfl) fun K3598 hl3599 => ?_)))))))
   have := hl3599.len
   cases hr1703
   refine rtM (rtT 7 rfl (rt0 ?_))
   intro a w hS hA
   refine ret1 hA rfl rfl ?_
   exact ⟨⟨_, _, rfl, (hK1213.mono (hS.grow 1 rfl)), ⟨ad1, cap2, ad444, cap445, (by rw [show hd440.length = t1701.length from (hln1707.symm.trans hG1706.hlen)]), (hl3.mono (RPart.mono) (hS.grow 6 rfl)), (hl3599.mono (RSl.mono (Flat.mono _)) (hS.grow 0 rfl))⟩⟩, hS.ext⟩

theorem w13 {M : Prop} {W : World} {H : Hp} (hH : H.le (hp W)) {cs_v_0 : List Value} (v_0 : Volume) (h_v_0 : (RVolume) H cs_v_0 v_0) {ad_errata : Option Addr} {cap_errata : Nat} {errata : List Erratum} (h_errata : Sl (Flat encErratum) 6 H ad_errata cap_errata errata) (to_2 : Int) {r : List Paragraph × Int} (hr : m13 v_0 errata to_2 = some r) : Calls Tryz.prog 13 [.agg cs_v_0.toArray, .slice ad_errata errata.length cap_errata, .int .i64 to_2].toArray W (RetK M H W (fun v K => ∃ (ad0 : Option Addr) (cap0 : Nat), v = .tuple [.slice ad0 r.1.length cap0, .int .i64 r.2].toArray ∧ Sl (Flat encParagraph) 2 K ad0 cap0 r.1)) := by
 have hh_v_0 := h_v_0
 obtain ⟨ad1, cap2, rfl, hl3⟩ := h_v_0
 have := hl3.len
 have := h_errata.len
 unfold m13 at hr
 refine enterG (M := M) Tryz.func13 rfl Tryz.ntmps13 rfl hH ?_
 refine sq (rg (bI (cs := [.int .i64 v_0.number, .int .i64 v_0.bound, .int .i64 v_0.height, .int .i64 v_0.width, .slice ad1 v_0.parts.length cap2]) rfl rfl rfl fun q4 K5 hK6 => (a1 rfl (a1 rfl (on (sq (sq (rg (ldA G37 Z37 rfl rfl (sS 0 rfl hK6) rfl (m1 rfl ?_))))))))))
 obtain ⟨r7, hx8, hr9⟩ := bd_some hr
 refine clS C33 rfl rfl rfl rfl (fun w H hH le => w33 hH v_0 (RVolume.mono _ _ _ _ (le.at 1 rfl) hh_v_0) (h_errata.mono (Flat.mono _) (le.at 1 rfl)) hx8) (a1 rfl (on (sq (rg (m1 rfl (neI rfl rfl rfl (on ?_)))))))
 refine ci rfl (fun hc13 => ?_) (fun hc13 => ?_)
 ·have hr14 := if_p hc13 hr9
  refine sq (rg (m1 rfl (a1 rfl (a1 rfl (on (rt_ ?_))))))
  cases hr14
  intro a w hS hA
  refine ret2 hA rfl rfl rfl ?_
  exact ⟨⟨_, _, rfl, (Sl.nil _ _ _ _ _ (by decide))⟩, hS.ext⟩
 ·have hr15 := if_n hc13 hr9
  refine sk (sq (sq (rg (m1 rfl ?_))))
  obtain ⟨r16, hx17, hr18⟩ := bd_some hr15
  refine clS C34 rfl rfl rfl rfl (fun w H hH le => w34 to_2 hx17) (nt rfl rfl (on ?_))
  refine cb rfl (fun hc22 => ?_) (fun hc22 => ?_)
  ·replace hc22 := nbt hc22
   have hr23 := if_f hc22 hr18
   refine sq (rg (a1 rfl (a1 rfl (on (rt_ ?_)))))
   cases hr23
   intro a w hS hA
   refine ret2 hA rfl rfl rfl ?_
   exact ⟨⟨_, _, rfl, (Sl.nil _ _ _ _ _ (by decide))⟩, hS.ext⟩
  ·replace hc22 := nbf hc22
   have hr24 := if_p hc22 hr18
   refine sk (sq (rg (a1 rfl (on (sq (sq (rg (ldA G37 Z37 rfl rfl (sS 0 rfl hK6) rfl (m1 rfl (m1 rfl ?_))))))))))
   obtain ⟨r25, hx26, hr27⟩ := bd_some hr24
   refine clK C35 rfl rfl rfl rfl (fun w H hH le => w35 hH v_0 (RVolume.mono _ _ _ _ (le.at 1 rfl) hh_v_0) (h_errata.mono (Flat.mono _) (le.at 1 rfl)) to_2 hx26) ?_
   rintro v_ K28 ⟨q29, cs30, rfl, hc31, hr32⟩
   have hr33 := hr32
   obtain ⟨ad34, cap35, ad37, cap38, rfl, hl36, hl39⟩ := hr32
   have := hl36.len
   have := hl39.len
   refine nl rfl rfl (fb 5 U90 rfl rfl rfl rfl Z88 (ld G88 rfl rfl ((sS 0 rfl hc31).drop 5) rfl (lnL U88 rfl rfl (m1 rfl (on (TG.nilRow 2 67 2 (TG.as 2 (z := Own.list none 0 67 2 encParagraph ([] : List Paragraph)) rfl rfl ?_)))))))
   obtain ⟨e361, hl362, hr363⟩ := bd_some hr27
   refine jn (fun a w => ∃ (ad364 : Option Addr) (cap365 : Nat), St M W H [K28, K5, H] [(2, Own.list ad364 cap365 67 2 encParagraph e361)] w ∧ Has [] 52 a [(9, .slice ad364 e361.length cap365)]) ?_ ?_
   ·refine bk ?_
    refine lp hl362 (fun s366 a w => ∃ (ad367 : Option Addr) (cap368 : Nat), St M W H [K28, K5, H] [(2, Own.list ad367 cap368 67 2 encParagraph s366.2)] w ∧ Has [] 52 a [(9, .slice ad367 s366.2.length cap368), (29, .slice ad37 r25.parts.length cap38), (30, .int .i64 (r25.parts.length : Int)), (31, .int .i64 (s366.1 : Int))]) ?_ ?_
    ·intro a w hS hA
     exact ⟨none, 0, hS, hA.cut ⟨rfl, rfl, rfl, rfl, tv⟩⟩
    ·rintro j s366 y371 hr369 hz370 a w ⟨ad367, cap368, hS, hA⟩
     refine TG.ap ?_ hS hA
     unfold m13_1 at hr369
     refine sq (rg (ltI rfl rfl rfl (on (sq ?_))))
     refine ci rfl (fun hc375 => ?_) (fun hc375 => ?_)
     ·have hr376 := if_p hc375 hr369
      refine sk (sq (bk (sq (rg ?_))))
      obtain ⟨x475, hx476, hr477⟩ := bd_some hr376
      obtain ⟨p478, rfl⟩ := hl39.adr hx476
      obtain ⟨cs479, hcs480, hq481, hr482⟩ := hl39.at hx476
      have hr483 := hr482
      obtain ⟨ad484, cap485, rfl, hl486⟩ := hr482
      have := hl486.len
      refine iaP U88 Z93 rfl rfl rfl rfl (lt_of hx476) (ld G93 rfl rfl (sS 0 rfl hq481) rfl (a1 rfl (on (sq (rg (m1 rfl (lnL U93 rfl rfl (m1 rfl (on ?_)))))))))
      obtain ⟨e570, hl571, hr572⟩ := bd_some hr477
      refine jn (fun a w => ∃ (ad573 : Option Addr) (cap574 : Nat), St M W H [K28, K5, H] [(2, Own.list ad573 cap574 67 2 encParagraph e570)] w ∧ Has [] 52 a [(9, .slice ad573 e570.length cap574), (29, .slice (some p478) r25.parts.length cap38), (30, .int .i64 (r25.parts.length : Int)), (31, .int .i64 (s366.1 : Int))]) ?_ ?_
      ·refine bk ?_
       refine lp hl571 (fun s575 a w => ∃ (ad576 : Option Addr) (cap577 : Nat), St M W H [K28, K5, H] [(2, Own.list ad576 cap577 67 2 encParagraph s575.2)] w ∧ Has [] 52 a [(9, .slice ad576 s575.2.length cap577), (29, .slice (some p478) r25.parts.length cap38), (30, .int .i64 (r25.parts.length : Int)), (31, .int .i64 (s366.1 : Int)), (35, .slice ad484 x475.length cap485), (36, .int .i64 (x475.length : Int)), (37, .int .i64 (s575.1 : Int))]) ?_ ?_
       ·intro a w hS hA
        exact ⟨ad367, cap368, hS, hA.cut ⟨rfl, rfl, rfl, rfl, rfl, rfl, rfl, tv⟩⟩
       ·rintro j s575 y580 hr578 hz579 a w ⟨ad576, cap577, hS, hA⟩
        refine TG.ap ?_ hS hA
        unfold m13_2 at hr578
        refine sq (rg (ltI rfl rfl rfl (on (sq ?_))))
        refine ci rfl (fun hc584 => ?_) (fun hc584 => ?_)
        ·have hr585 := if_p hc584 hr578
         refine sk (sq (bk (sq (rg ?_))))
         obtain ⟨x608, hx609, hr610⟩ := bd_some hr585
         obtain ⟨p611, rfl⟩ := hl486.adr hx609
         obtain ⟨cs612, hcs613, hq614, hr615⟩ := hl486.at hx609
         obtain rfl := hr615
         refine iaP U93 Z95 rfl rfl rfl rfl (lt_of hx609) (ldA G95 Z95 rfl rfl (sS 0 rfl hq614) rfl (va (cs := [.int .i64 x608.paragraph.anchor, .string (bs x608.paragraph.text), .bool x608.removed]) Tryz.zeroValue95 Z95 rfl rfl rfl rfl rfl rfl rfl rfl fun q616 K617 hK618 => (on (sq (rg (fb 2 U95 rfl rfl rfl rfl Z4 (ld G4 rfl rfl ((sS 0 rfl hK618).drop 2) rfl (nt rfl rfl (on ?_)))))))))
         obtain ⟨t627, hx628, hr629⟩ := bd_some hr610
         refine jn (fun a w => ∃ (ad630 : Option Addr) (cap631 : Nat), St M W H [K617, K28, K5, H] [(2, Own.list ad630 cap631 67 2 encParagraph t627)] w ∧ Has [] 52 a [(9, .slice ad630 t627.length cap631), (29, .slice (some p478) r25.parts.length cap38), (30, .int .i64 (r25.parts.length : Int)), (31, .int .i64 (s366.1 : Int)), (35, .slice (some p611) x475.length cap485), (36, .int .i64 (x475.length : Int)), (37, .int .i64 (s575.1 : Int))]) ?_ ?_
         ·refine cb rfl (fun hc632 => ?_) (fun hc632 => ?_)
          ·replace hc632 := nbt hc632
           have hr633 := if_f hc632 hx628
           refine rg (m1 rfl (fb 0 U95 rfl rfl rfl rfl Z67 (ldA G67 Z67 rfl rfl ((sS 0 rfl hK618).take 2) rfl ?_)))
           obtain ⟨hk634, hr635⟩ := chk_some hr633
           have := lenA s575.2 [x608.paragraph]
           refine ap1 2 encParagraph (l := s575.2) x608.paragraph T10.E31 rfl rfl rfl rfl rfl rfl rfl rfl rfl rfl rfl rfl hk634 fun ad636 cap637 u638 => (a1 rfl (on ?_))
           cases hr635
           intro a w hS hA
           exact ⟨ad636, cap637, hS, hA.cut ⟨rfl, rfl, rfl, rfl, rfl, rfl, rfl, tv⟩⟩
          ·replace hc632 := nbf hc632
           have hr639 := if_p hc632 hx628
           refine sk ?_
           cases hr639
           intro a w hS hA
           exact ⟨ad576, cap577, hS, hA.cut ⟨rfl, rfl, rfl, rfl, rfl, rfl, rfl, tv⟩⟩
         ·rintro a w ⟨ad630, cap631, hS, hA⟩
          refine TG.ap ?_ hS hA
          refine rg (adI rfl rfl rfl (by omega) (m1 rfl (on ?_)))
          cases hr629
          intro a w hS hA
          exact ⟨_, hz579, ad630, cap631, hS.selH [1, 2, 3] rfl, hA.cut ⟨rfl, rfl, rfl, rfl, rfl, rfl, rfl, tv⟩⟩
        ·have hr640 := if_n hc584 hr578
         refine xt rfl ?_
         cases hr640
         obtain rfl := Fin.out hz579
         intro a w hS hA
         exact ⟨ad576, cap577, hS, hA.cut ⟨rfl, rfl, rfl, rfl, tv⟩⟩
      ·rintro a w ⟨ad573, cap574, hS, hA⟩
       refine TG.ap ?_ hS hA
       refine rg (adI rfl rfl rfl (by omega) (m1 rfl (on ?_)))
       cases hr572
       intro a w hS hA
       exact ⟨_, hz370, ad573, cap574, hS, hA.cut ⟨rfl, rfl, rfl, rfl, tv⟩⟩
     ·have hr641 := if_n hc375 hr369
      refine xt rfl ?_
      cases hr641
      obtain rfl := Fin.out hz370
      intro a w hS hA
      exact ⟨ad367, cap368, hS, hA.cut ⟨rfl, tv⟩⟩
   ·rintro a w ⟨ad364, cap365, hS, hA⟩
    refine TG.ap ?_ hS hA
    refine sq (rg (m1 rfl (a1 rfl (a1 rfl (on (rt_ ?_))))))
    cases hr363
    intro a w hS hA
    refine ret2 hA rfl rfl rfl ?_
    exact ⟨⟨_, _, rfl, (hS.listOut 2 rfl (fun _ => rfl))⟩, hS.ext⟩

theorem w37 {M : Prop} {W : World} {H : Hp} (hH : H.le (hp W)) {cs_v_0 : List Value} (v_0 : Volume) (h_v_0 : (RVolume) H cs_v_0 v_0) {ad_errata : Option Addr} {cap_errata : Nat} {errata : List Erratum} (h_errata : Sl (Flat encErratum) 6 H ad_errata cap_errata errata) {r : List printed} (hr : m37 v_0 errata = some r) : Calls Tryz.prog 37 [.agg cs_v_0.toArray, .slice ad_errata errata.length cap_errata].toArray W (RetK M H W (fun v K => ∃ (ad0 : Option Addr) (cap0 : Nat), v = .slice ad0 r.length cap0 ∧ Sl (Flat encprinted) 6 K ad0 cap0 r)) := by
 have hh_v_0 := h_v_0
 obtain ⟨ad1, cap2, rfl, hl3⟩ := h_v_0
 have := hl3.len
 have := h_errata.len
 unfold m37 at hr
 refine enterG (M := M) Tryz.func37 rfl Tryz.ntmps37 rfl hH ?_
 refine sq (rg (bI (cs := [.int .i64 v_0.number, .int .i64 v_0.bound, .int .i64 v_0.height, .int .i64 v_0.width, .slice ad1 v_0.parts.length cap2]) rfl rfl rfl fun q4 K5 hK6 => (a1 rfl (on (sq (rg (ldA G37 Z37 rfl rfl (sS 0 rfl hK6) rfl (m1 rfl (fb 1 U37 rfl rfl rfl rfl Z3 (ld G3 rfl rfl (((sS 0 rfl hK6).drop 1).take 1) rfl ?_))))))))))
 obtain ⟨r7, hx8, hr9⟩ := bd_some hr
 refine clK C35 rfl rfl rfl rfl (fun w H hH le => w35 hH v_0 (RVolume.mono _ _ _ _ (le.at 1 rfl) hh_v_0) (h_errata.mono (Flat.mono _) (le.at 1 rfl)) v_0.bound hx8) ?_
 rintro v_ K10 ⟨q11, cs12, rfl, hc13, hr14⟩
 have hr15 := hr14
 obtain ⟨ad16, cap17, ad19, cap20, rfl, hl18, hl21⟩ := hr14
 have := hl18.len
 have := hl21.len
 refine a1 rfl (on (sq (rg (a1 rfl (on (sq (sq (rg (m1 rfl (nl rfl rfl (fb 5 U90 rfl rfl rfl rfl Z88 ?_)))))))))))
 refine ld G88 rfl rfl ((sS 0 rfl hc13).drop 5) rfl (lnL U88 rfl rfl (m1 rfl (on (TG.nilRow 2 103 6 (TG.as 2 (z := Own.list none 0 103 6 encprinted ([] : List printed)) rfl rfl ?_)))))
 obtain ⟨e758, hl759, hr760⟩ := bd_some hr9
 refine jn (fun a w => ∃ (ad761 : Option Addr) (cap762 : Nat), St M W H [K10, K5, H] [(2, Own.list ad761 cap762 103 6 encprinted e758)] w ∧ Has [] 93 a [(4, .slice ad761 e758.length cap762)]) ?_ ?_
 ·refine bk ?_
  refine lp hl759 (fun s763 a w => ∃ (ad764 : Option Addr) (cap765 : Nat), St M W H [K10, K5, H] [(2, Own.list ad764 cap765 103 6 encprinted s763.2.2)] w ∧ Has [] 93 a [(2, .pointer (some q4)), (4, .slice ad764 s763.2.2.length cap765), (6, .int .i64 s763.2.1), (22, .slice ad19 r7.parts.length cap20), (23, .int .i64 (r7.parts.length : Int)), (24, .int .i64 (s763.1 : Int))]) ?_ ?_
  ·intro a w hS hA
   exact ⟨none, 0, hS, hA.cut ⟨rfl, rfl, rfl, rfl, rfl, rfl, tv⟩⟩
  ·rintro j s763 y768 hr766 hz767 a w ⟨ad764, cap765, hS, hA⟩
   refine TG.ap ?_ hS hA
   unfold m37_1 at hr766
   refine sq (rg (ltI rfl rfl rfl (on (sq ?_))))
   refine ci rfl (fun hc772 => ?_) (fun hc772 => ?_)
   ·have hr773 := if_p hc772 hr766
    refine sk (sq (bk (sq (rg (m1 rfl ?_)))))
    obtain ⟨x994, hx995, hr996⟩ := bd_some hr773
    obtain ⟨p997, rfl⟩ := hl21.adr hx995
    obtain ⟨cs998, hcs999, hq1000, hr1001⟩ := hl21.at hx995
    have hr1002 := hr1001
    obtain ⟨ad1003, cap1004, rfl, hl1005⟩ := hr1001
    have := hl1005.len
    refine iaP U88 Z93 rfl rfl rfl rfl (lt_of hx995) (ld G93 rfl rfl (sS 0 rfl hq1000) rfl (a1 rfl (a1 rfl (on (sq (rg (a1 rfl (a1 rfl (on (sq (sq ?_)))))))))))
    refine rg (m1 rfl (lnL U93 rfl rfl (m1 rfl (on ?_))))
    obtain ⟨e1203, hl1204, hr1205⟩ := bd_some hr996
    refine jn (fun a w => ∃ (ad1206 : Option Addr) (cap1207 : Nat), St M W H [K10, K5, H] [(2, Own.list ad1206 cap1207 103 6 encprinted e1203.2)] w ∧ Has [] 93 a [(2, .pointer (some q4)), (4, .slice ad1206 e1203.2.length cap1207), (6, .int .i64 s763.2.1), (9, .int .i64 e1203.1), (22, .slice (some p997) r7.parts.length cap20), (23, .int .i64 (r7.parts.length : Int)), (24, .int .i64 (s763.1 : Int))]) ?_ ?_
    ·refine bk ?_
     refine lp hl1204 (fun s1208 a w => ∃ (ad1209 : Option Addr) (cap1210 : Nat), St M W H [K10, K5, H] [(2, Own.list ad1209 cap1210 103 6 encprinted s1208.2.2.2)] w ∧ Has [] 93 a [(2, .pointer (some q4)), (4, .slice ad1209 s1208.2.2.2.length cap1210), (6, .int .i64 s763.2.1), (7, .int .i64 (s763.1 : Int)), (9, .int .i64 s1208.2.2.1), (10, .int .i64 (s1208.1 : Int)), (22, .slice (some p997) r7.parts.length cap20), (23, .int .i64 (r7.parts.length : Int)), (24, .int .i64 (s763.1 : Int)), (29, .slice ad1003 x994.length cap1004), (30, .int .i64 (x994.length : Int)), (31, .int .i64 (s1208.2.1 : Int))]) ?_ ?_
     ·intro a w hS hA
      exact ⟨ad764, cap765, hS, hA.cut ⟨rfl, rfl, rfl, rfl, rfl, rfl, rfl, rfl, rfl, rfl, rfl, rfl, tv⟩⟩
     ·rintro j s1208 y1213 hr1211 hz1212 a w ⟨ad1209, cap1210, hS, hA⟩
      refine TG.ap ?_ hS hA
      unfold m37_2 at hr1211
      refine sq (rg (ltI rfl rfl rfl (on (sq ?_))))
      refine ci rfl (fun hc1217 => ?_) (fun hc1217 => ?_)
      ·have hr1218 := if_p hc1217 hr1211
       refine sk (sq ?_)
       obtain ⟨t1276, hx1277, hr1278⟩ := bd_some hr1218
       refine jn (fun a w => ∃ (ad1279 : Option Addr) (cap1280 : Nat), St M W H [K10, K5, H] [(2, Own.list ad1279 cap1280 103 6 encprinted t1276.2.2)] w ∧ Has [] 93 a [(2, .pointer (some q4)), (4, .slice ad1279 t1276.2.2.length cap1280), (6, .int .i64 s763.2.1), (7, .int .i64 (s763.1 : Int)), (9, .int .i64 t1276.2.1), (10, .int .i64 (t1276.1 : Int)), (22, .slice (some p997) r7.parts.length cap20), (23, .int .i64 (r7.parts.length : Int)), (24, .int .i64 (s763.1 : Int)), (29, .slice ad1003 x994.length cap1004), (30, .int .i64 (x994.length : Int)), (31, .int .i64 (s1208.2.1 : Int))]) ?_ ?_
       ·refine bk (sq (rg ?_))
        obtain ⟨x1281, hx1282, hr1283⟩ := bd_some hx1277
        obtain ⟨p1284, rfl⟩ := hl1005.adr hx1282
        obtain ⟨cs1285, hcs1286, hq1287, hr1288⟩ := hl1005.at hx1282
        obtain rfl := hr1288
        refine iaP U93 Z95 rfl rfl rfl rfl (lt_of hx1282) (ldA G95 Z95 rfl rfl (sS 0 rfl hq1287) rfl (va (cs := [.int .i64 x1281.paragraph.anchor, .string (bs x1281.paragraph.text), .bool x1281.removed]) Tryz.zeroValue95 Z95 rfl rfl rfl rfl rfl rfl rfl rfl fun q1289 K1290 hK1291 => (on (sq (sq (rg (fb 2 U95 rfl rfl rfl rfl Z4 (ld G4 rfl rfl ((sS 0 rfl hK1291).drop 2) rfl (on ?_)))))))))
        refine cb rfl (fun hc1295 => ?_) (fun hc1295 => ?_)
        ·have hr1296 := if_p hc1295 hr1283
         refine xt rfl ?_
         cases hr1296
         intro a w hS hA
         exact ⟨ad1209, cap1210, hS.selH [1, 2, 3] rfl, hA.cut ⟨rfl, rfl, rfl, rfl, rfl, rfl, rfl, rfl, rfl, rfl, rfl, rfl, tv⟩⟩
        ·have hr1297 := if_f hc1295 hr1283
         refine sk (sq (rg (m1 rfl ?_)))
         obtain ⟨hk1298, hr1299⟩ := chk_some hr1297
         refine adI rfl rfl rfl hk1298 (a1 rfl (on (sq (rg (fb 0 U95 rfl rfl rfl rfl Z67 (fb 1 U67 rfl rfl rfl rfl Z9 (ld G9 rfl rfl (((sS 0 rfl hK1291).drop 1).take 1) rfl (lnS U9 rfl rfl (fb 3 U37 rfl rfl rfl rfl Z3 (ld G3 rfl rfl (((sS 2 rfl hK6).drop 3).take 1) rfl ?_))))))))))
         obtain ⟨hk1300, hr1301⟩ := chk_some hr1299
         refine adI rfl rfl rfl hk1300 ?_
         obtain ⟨hk1302, hr1303⟩ := chk_some hr1301
         refine sbI rfl rfl rfl hk1302 (fb 3 U37 rfl rfl rfl rfl Z3 (ld G3 rfl rfl (((sS 2 rfl hK6).drop 3).take 1) rfl ?_))
         obtain ⟨hk1304, hr1305⟩ := chk_some hr1303
         refine quI rfl rfl rfl hk1304 (a1 rfl (on (sq ?_)))
         obtain ⟨hk1306, hr1307⟩ := chk_some hr1305
         obtain ⟨hk1308, hr1309⟩ := chk_some hr1307
         obtain ⟨hk1310, hr1311⟩ := chk_some hr1309
         have : 0 ≤ (s1208.2.2.1 % v_0.height) ∧ (s1208.2.2.1 % v_0.height) < v_0.height := have h := (hk1310 : 0 ≤ s1208.2.2.1 ∧ 0 < v_0.height); ⟨Int.emod_nonneg _ (by omega), Int.emod_lt_of_pos _ h.2⟩
         obtain ⟨hk1312, hr1313⟩ := chk_some hr1311
         obtain ⟨x1314, hx1315, hr1316⟩ := bd_some hr1313
         obtain ⟨p1317, rfl⟩ := hl3.adr hx1315
         obtain ⟨cs1318, hcs1319, hq1320, hr1321⟩ := hl3.at hx1315
         have hr1322 := hr1321
         obtain ⟨ad1323, cap1324, rfl, hl1325⟩ := hr1321
         have := hl1325.len
         refine drG 26 mixed (by kernel_rfl) rfl (dt rfl (m1 rfl fin1) (dt rfl (fb 0 U95 rfl rfl rfl rfl Z67 fin1) (dt rfl (fb 0 U67 rfl rfl rfl rfl Z3 fin1) (dt rfl (ld G3 rfl rfl ((sS 1 rfl hK1291).take 1) rfl fin1) (dt rfl (m1 rfl fin1) (dt rfl (m1 rfl fin1) (dt rfl (fb 2 U37 rfl rfl rfl rfl Z3 fin1) (dt rfl (ld G3 rfl rfl (((sS 3 rfl hK6).drop 2).take 1) rfl fin1) (dt rfl (quI rfl rfl rfl hk1306 fin1) (dt rfl (adI rfl rfl rfl hk1308 fin1) (dt rfl (m1 rfl fin1) ?_)))))))))))
         refine dt rfl (fb 2 U37 rfl rfl rfl rfl Z3 fin1) (dt rfl (ld G3 rfl rfl (((sS 3 rfl hK6).drop 2).take 1) rfl fin1) (dt rfl (rmI rfl rfl rfl hk1310 fin1) (dt rfl (adI rfl rfl rfl hk1312 fin1) (dt rfl (m1 rfl fin1) (dt rfl (bu (cs := [.int .i64 x1281.paragraph.anchor, .int .i64 (s763.2.1 + (s1208.2.2.1 / v_0.height)), .int .i64 ((s1208.2.2.1 % v_0.height) + 1), .int .i64 ((((x1281.paragraph.text.length : Int) + v_0.width) - 1) / v_0.width)]) T10.B63 rfl rfl rfl fin1) (dt rfl (fb 4 U37 rfl rfl rfl rfl Z35 fin1) (dt rfl (ld G35 rfl rfl ((sS 3 rfl hK6).drop 4) rfl fin1) (dt rfl (m1 rfl fin1) (dt rfl (iaP U35 Z79 rfl rfl rfl rfl (lt_of hx1315) fin1) (dt rfl (fb 0 U79 rfl rfl rfl rfl Z3 fin1) (dt rfl (ld G3 rfl rfl ((sS 4 rfl hq1320).take 1) rfl fin1) ?_)))))))))))
         refine dt rfl (m1 rfl fin1) (dt rfl (bu (cs := [.int .i64 x1281.paragraph.anchor, .int .i64 (s763.2.1 + (s1208.2.2.1 / v_0.height)), .int .i64 ((s1208.2.2.1 % v_0.height) + 1), .int .i64 ((((x1281.paragraph.text.length : Int) + v_0.width) - 1) / v_0.width), .int .i64 x1314.day, .int .i64 ((s1208.1 : Int) + 1)]) T10.B103 rfl rfl rfl fin1) ?_)
         refine DF.und (α := Option Addr × Nat) (none, 0) (fun q => .slice q.1 1 q.2) (fun (q : Option Addr × Nat) K => Sl (Flat encprinted) 6 K q.1 q.2 ([(⟨(⟨x1281.paragraph.anchor, (s763.2.1 + (s1208.2.2.1 / v_0.height)), ((s1208.2.2.1 % v_0.height) + 1), ((((x1281.paragraph.text.length : Int) + v_0.width) - 1) / v_0.width)⟩ : Place), x1314.day, ((s1208.1 : Int) + 1)⟩ : printed)] : List printed)) (fun _ _ _ h x => x.mono (Flat.mono _) h) (by kernel_rfl) rfl (fun a w K hS hA hF => TG.pa hS hA (bS (cs := [.int .i64 x1281.paragraph.anchor, .int .i64 (s763.2.1 + (s1208.2.2.1 / v_0.height)), .int .i64 ((s1208.2.2.1 % v_0.height) + 1), .int .i64 ((((x1281.paragraph.text.length : Int) + v_0.width) - 1) / v_0.width), .int .i64 x1314.day, .int .i64 ((s1208.1 : Int) + 1)]) T10.E100 rfl rfl rfl rfl fun q1326 K1327 hq1328 hK1329 => by
           have hl1330 : Sl (Flat encprinted) 6 K1327 (some q1326) 1 ([(⟨(⟨x1281.paragraph.anchor, (s763.2.1 + (s1208.2.2.1 / v_0.height)), ((s1208.2.2.1 % v_0.height) + 1), ((((x1281.paragraph.text.length : Int) + v_0.width) - 1) / v_0.width)⟩ : Place), x1314.day, ((s1208.1 : Int) + 1)⟩ : printed)] : List printed) := Sl.litR (css := [[.int .i64 x1281.paragraph.anchor, .int .i64 (s763.2.1 + (s1208.2.2.1 / v_0.height)), .int .i64 ((s1208.2.2.1 % v_0.height) + 1), .int .i64 ((((x1281.paragraph.text.length : Int) + v_0.width) - 1) / v_0.width), .int .i64 x1314.day, .int .i64 ((s1208.1 : Int) + 1)]]) (l := ([(⟨(⟨x1281.paragraph.anchor, (s763.2.1 + (s1208.2.2.1 / v_0.height)), ((s1208.2.2.1 % v_0.height) + 1), ((((x1281.paragraph.text.length : Int) + v_0.width) - 1) / v_0.width)⟩ : Place), x1314.day, ((s1208.1 : Int) + 1)⟩ : printed)] : List printed)) ⟨⟨rfl, rfl, rfl⟩, tv⟩ hq1328 hK1329 rfl
           have := hl1330.len
           exact finU (f := fun q => .slice q.1 1 q.2) (G := (fun (q : Option Addr × Nat) K => Sl (Flat encprinted) 6 K q.1 q.2 ([(⟨(⟨x1281.paragraph.anchor, (s763.2.1 + (s1208.2.2.1 / v_0.height)), ((s1208.2.2.1 % v_0.height) + 1), ((((x1281.paragraph.text.length : Int) + v_0.width) - 1) / v_0.width)⟩ : Place), x1314.day, ((s1208.1 : Int) + 1)⟩ : printed)] : List printed))) (_, _) (fun _ _ _ h x => x.mono (Flat.mono _) h) hl1330)) ?_
         rintro ⟨ad1332, cap1333⟩
         refine DF.nil fun K1334 hF => ?_
         obtain ⟨hu1331, _⟩ := hF
         have := hu1331.len
         obtain ⟨hk1335, hr1336⟩ := chk_some hr1316
         have := lenA s1208.2.2.2 ([(⟨(⟨x1281.paragraph.anchor, (s763.2.1 + (s1208.2.2.1 / v_0.height)), ((s1208.2.2.1 % v_0.height) + 1), ((((x1281.paragraph.text.length : Int) + v_0.width) - 1) / v_0.width)⟩ : Place), x1314.day, ((s1208.1 : Int) + 1)⟩ : printed)] : List printed)
         refine apS 2 (enc := encprinted) (l := s1208.2.2.2) (m := ([(⟨(⟨x1281.paragraph.anchor, (s763.2.1 + (s1208.2.2.1 / v_0.height)), ((s1208.2.2.1 % v_0.height) + 1), ((((x1281.paragraph.text.length : Int) + v_0.width) - 1) / v_0.width)⟩ : Place), x1314.day, ((s1208.1 : Int) + 1)⟩ : printed)] : List printed)) T10.E100 rfl rfl rfl rfl rfl rfl hu1331 0 rfl (fun _ => rfl) (fun _ => rfl) rfl hk1335 fun ad1337 cap1338 => (a1 rfl (on (rg (m1 rfl (m1 rfl ?_)))))
         obtain ⟨hk1339, hr1340⟩ := chk_some hr1336
         refine adI rfl rfl rfl hk1339 (a1 rfl (on ?_))
         cases hr1340
         intro a w hS hA
         exact ⟨ad1337, cap1338, hS.selH [2, 3, 4] rfl, hA.cut ⟨rfl, rfl, rfl, rfl, rfl, rfl, rfl, rfl, rfl, rfl, rfl, rfl, tv⟩⟩
       ·rintro a w ⟨ad1279, cap1280, hS, hA⟩
        refine TG.ap ?_ hS hA
        refine rg (adI rfl rfl rfl (by omega) (m1 rfl (on ?_)))
        cases hr1278
        intro a w hS hA
        exact ⟨_, hz1212, ad1279, cap1280, hS, hA.cut ⟨rfl, rfl, rfl, rfl, rfl, rfl, rfl, rfl, rfl, rfl, rfl, rfl, tv⟩⟩
      ·have hr1341 := if_n hc1217 hr1211
       refine xt rfl ?_
       cases hr1341
       obtain rfl := Fin.out hz1212
       intro a w hS hA
       exact ⟨ad1209, cap1210, hS, hA.cut ⟨rfl, rfl, rfl, rfl, rfl, rfl, rfl, tv⟩⟩
    ·rintro a w ⟨ad1206, cap1207, hS, hA⟩
     refine TG.ap ?_ hS hA
     refine rg (m1 rfl (m1 rfl (fb 2 U37 rfl rfl rfl rfl Z3 (ld G3 rfl rfl (((sS 1 rfl hK6).drop 2).take 1) rfl ?_))))
     obtain ⟨hk1342, hr1343⟩ := chk_some hr1205
     refine adI rfl rfl rfl hk1342 ?_
     obtain ⟨hk1344, hr1345⟩ := chk_some hr1343
     refine sbI rfl rfl rfl hk1344 (fb 2 U37 rfl rfl rfl rfl Z3 (ld G3 rfl rfl (((sS 1 rfl hK6).drop 2).take 1) rfl ?_))
     obtain ⟨hk1346, hr1347⟩ := chk_some hr1345
     refine quI rfl rfl rfl hk1346 ?_
     obtain ⟨hk1348, hr1349⟩ := chk_some hr1347
     refine adI rfl rfl rfl hk1348 (a1 rfl (on (rg (adI rfl rfl rfl (by omega) (m1 rfl (on ?_))))))
     cases hr1349
     intro a w hS hA
     exact ⟨_, hz767, ad1206, cap1207, hS, hA.cut ⟨rfl, rfl, rfl, rfl, rfl, rfl, tv⟩⟩
   ·have hr1350 := if_n hc772 hr766
    refine xt rfl ?_
    cases hr1350
    obtain rfl := Fin.out hz767
    intro a w hS hA
    exact ⟨ad764, cap765, hS, hA.cut ⟨rfl, tv⟩⟩
 ·rintro a w ⟨ad761, cap762, hS, hA⟩
  refine TG.ap ?_ hS hA
  refine sq (rg (m1 rfl (a1 rfl (on (rt_ ?_)))))
  cases hr760
  intro a w hS hA
  refine ret1 hA rfl rfl ?_
  exact ⟨⟨_, _, rfl, (hS.listOut 2 rfl (fun _ => rfl))⟩, hS.ext⟩

theorem w17 {M : Prop} {W : World} {H : Hp} (hH : H.le (hp W)) {cs_v_0 : List Value} (v_0 : Volume) (h_v_0 : (RVolume) H cs_v_0 v_0) {ad_errata : Option Addr} {cap_errata : Nat} {errata : List Erratum} (h_errata : Sl (Flat encErratum) 6 H ad_errata cap_errata errata) {r : List Place × Int} (hr : m17 v_0 errata = some r) : Calls Tryz.prog 17 [.agg cs_v_0.toArray, .slice ad_errata errata.length cap_errata].toArray W (RetK M H W (fun v K => ∃ (ad0 : Option Addr) (cap0 : Nat), v = .tuple [.slice ad0 r.1.length cap0, .int .i64 r.2].toArray ∧ Sl (Flat encPlace) 4 K ad0 cap0 r.1)) := by
 have hh_v_0 := h_v_0
 obtain ⟨ad1, cap2, rfl, hl3⟩ := h_v_0
 have := hl3.len
 have := h_errata.len
 unfold m17 at hr
 refine enterG (M := M) Tryz.func17 rfl Tryz.ntmps17 rfl hH ?_
 refine sq (rg (bI (cs := [.int .i64 v_0.number, .int .i64 v_0.bound, .int .i64 v_0.height, .int .i64 v_0.width, .slice ad1 v_0.parts.length cap2]) rfl rfl rfl fun q4 K5 hK6 => (a1 rfl (a1 rfl (on (sq (sq (rg (ldA G37 Z37 rfl rfl (sS 0 rfl hK6) rfl (m1 rfl ?_))))))))))
 obtain ⟨r7, hx8, hr9⟩ := bd_some hr
 refine clS C33 rfl rfl rfl rfl (fun w H hH le => w33 hH v_0 (RVolume.mono _ _ _ _ (le.at 1 rfl) hh_v_0) (h_errata.mono (Flat.mono _) (le.at 1 rfl)) hx8) (a1 rfl (on (sq (rg (m1 rfl (neI rfl rfl rfl (on ?_)))))))
 refine ci rfl (fun hc13 => ?_) (fun hc13 => ?_)
 ·have hr14 := if_p hc13 hr9
  refine sq (rg (m1 rfl (a1 rfl (a1 rfl (on (rt_ ?_))))))
  cases hr14
  intro a w hS hA
  refine ret2 hA rfl rfl rfl ?_
  exact ⟨⟨_, _, rfl, (Sl.nil _ _ _ _ _ (by decide))⟩, hS.ext⟩
 ·have hr15 := if_n hc13 hr9
  refine sk (sq (rg (a1 rfl (on (sq (sq (rg (ldA G37 Z37 rfl rfl (sS 0 rfl hK6) rfl (m1 rfl ?_)))))))))
  obtain ⟨r16, hx17, hr18⟩ := bd_some hr15
  refine clK C37 rfl rfl rfl rfl (fun w H hH le => w37 hH v_0 (RVolume.mono _ _ _ _ (le.at 1 rfl) hh_v_0) (h_errata.mono (Flat.mono _) (le.at 1 rfl)) hx17) ?_
  rintro v_ K19 ⟨ad20, cap21, rfl, hl22⟩
  have := hl22.len
  refine lnL U100 rfl rfl (m1 rfl (on (TG.nilRow 2 63 4 (TG.as 2 (z := Own.list none 0 63 4 encPlace ([] : List Place)) rfl rfl ?_))))
  obtain ⟨e89, hl90, hr91⟩ := bd_some hr18
  refine jn (fun a w => ∃ (ad92 : Option Addr) (cap93 : Nat), St M W H [K19, K5, H] [(2, Own.list ad92 cap93 63 4 encPlace e89)] w ∧ Has [] 31 a [(7, .slice ad92 e89.length cap93)]) ?_ ?_
  ·refine bk ?_
   refine lp hl90 (fun s94 a w => ∃ (ad95 : Option Addr) (cap96 : Nat), St M W H [K19, K5, H] [(2, Own.list ad95 cap96 63 4 encPlace s94.2)] w ∧ Has [] 31 a [(7, .slice ad95 s94.2.length cap96), (18, .slice ad20 r16.length cap21), (19, .int .i64 (r16.length : Int)), (20, .int .i64 (s94.1 : Int))]) ?_ ?_
   ·intro a w hS hA
    exact ⟨none, 0, hS, hA.cut ⟨rfl, rfl, rfl, rfl, tv⟩⟩
   ·rintro j s94 y99 hr97 hz98 a w ⟨ad95, cap96, hS, hA⟩
    refine TG.ap ?_ hS hA
    unfold m17_1 at hr97
    refine sq (rg (ltI rfl rfl rfl (on (sq ?_))))
    refine ci rfl (fun hc103 => ?_) (fun hc103 => ?_)
    ·have hr104 := if_p hc103 hr97
     refine sk (sq (bk (sq (rg ?_))))
     obtain ⟨x121, hx122, hr123⟩ := bd_some hr104
     obtain ⟨p124, rfl⟩ := hl22.adr hx122
     obtain ⟨cs125, hcs126, hq127, hr128⟩ := hl22.at hx122
     obtain rfl := hr128
     refine iaP U100 Z103 rfl rfl rfl rfl (lt_of hx122) (ldA G103 Z103 rfl rfl (sS 0 rfl hq127) rfl (va (cs := [.int .i64 x121.place.anchor, .int .i64 x121.place.column, .int .i64 x121.place.line, .int .i64 x121.place.lines, .int .i64 x121.day, .int .i64 x121.number]) Tryz.zeroValue103 Z103 rfl rfl rfl rfl rfl rfl rfl rfl fun q129 K130 hK131 => (on (rg (m1 rfl (fb 0 U103 rfl rfl rfl rfl Z63 (ldA G63 Z63 rfl rfl ((sS 0 rfl hK131).take 4) rfl ?_)))))))
     obtain ⟨hk132, hr133⟩ := chk_some hr123
     have := lenA s94.2 [x121.place]
     refine ap1 2 encPlace (l := s94.2) x121.place T10.E42 rfl rfl rfl rfl rfl rfl rfl rfl rfl rfl rfl rfl hk132 fun ad134 cap135 u136 => (a1 rfl (on (rg (adI rfl rfl rfl (by omega) (m1 rfl (on ?_))))))
     cases hr133
     intro a w hS hA
     exact ⟨_, hz98, ad134, cap135, hS.selH [1, 2, 3] rfl, hA.cut ⟨rfl, rfl, rfl, rfl, tv⟩⟩
    ·have hr137 := if_n hc103 hr97
     refine xt rfl ?_
     cases hr137
     obtain rfl := Fin.out hz98
     intro a w hS hA
     exact ⟨ad95, cap96, hS, hA.cut ⟨rfl, tv⟩⟩
  ·rintro a w ⟨ad92, cap93, hS, hA⟩
   refine TG.ap ?_ hS hA
   refine sq (rg (m1 rfl (a1 rfl (a1 rfl (on (rt_ ?_))))))
   cases hr91
   intro a w hS hA
   refine ret2 hA rfl rfl rfl ?_
   exact ⟨⟨_, _, rfl, (hS.listOut 2 rfl (fun _ => rfl))⟩, hS.ext⟩

theorem w23 {M : Prop} {W : World} {H : Hp} (hH : H.le (hp W)) {cs_v_0 : List Value} (v_0 : Volume) (h_v_0 : (RVolume) H cs_v_0 v_0) {ad_errata : Option Addr} {cap_errata : Nat} {errata : List Erratum} (h_errata : Sl (Flat encErratum) 6 H ad_errata cap_errata errata) (anchor : Int) (to_3 : Int) {r : Bytes × Bool × Int} (hr : m23 v_0 errata anchor to_3 = some r) : Calls Tryz.prog 23 [.agg cs_v_0.toArray, .slice ad_errata errata.length cap_errata, .int .i64 anchor, .int .i64 to_3].toArray W (RetS M W (.tuple [.string (bs r.1), .bool r.2.1, .int .i64 r.2.2].toArray)) := by
 have hh_v_0 := h_v_0
 obtain ⟨ad1, cap2, rfl, hl3⟩ := h_v_0
 have := hl3.len
 have := h_errata.len
 unfold m23 at hr
 refine enterG (M := M) Tryz.func23 rfl Tryz.ntmps23 rfl hH ?_
 refine sq (rg (bI (cs := [.int .i64 v_0.number, .int .i64 v_0.bound, .int .i64 v_0.height, .int .i64 v_0.width, .slice ad1 v_0.parts.length cap2]) rfl rfl rfl fun q4 K5 hK6 => (a1 rfl (a1 rfl (a1 rfl (on (sq (sq (rg (ldA G37 Z37 rfl rfl (sS 0 rfl hK6) rfl (m1 rfl ?_)))))))))))
 obtain ⟨r7, hx8, hr9⟩ := bd_some hr
 refine clS C33 rfl rfl rfl rfl (fun w H hH le => w33 hH v_0 (RVolume.mono _ _ _ _ (le.at 1 rfl) hh_v_0) (h_errata.mono (Flat.mono _) (le.at 1 rfl)) hx8) (a1 rfl (on (sq (rg (m1 rfl (neI rfl rfl rfl (on ?_)))))))
 refine ci rfl (fun hc13 => ?_) (fun hc13 => ?_)
 ·have hr14 := if_p hc13 hr9
  refine sq (rg (m1 rfl (a1 rfl (a1 rfl (a1 rfl (on (rt_ ?_)))))))
  cases hr14
  intro a w hS hA
  refine ret3 hA rfl rfl rfl rfl ?_
  exact ⟨rfl, hS.ext⟩
 ·have hr15 := if_n hc13 hr9
  refine sk (sq (sq (rg (m1 rfl ?_))))
  obtain ⟨r16, hx17, hr18⟩ := bd_some hr15
  refine clS C34 rfl rfl rfl rfl (fun w H hH le => w34 to_3 hx17) (nt rfl rfl (on ?_))
  refine cb rfl (fun hc22 => ?_) (fun hc22 => ?_)
  ·replace hc22 := nbt hc22
   have hr23 := if_f hc22 hr18
   refine sq (rg (a1 rfl (a1 rfl (a1 rfl (on (rt_ ?_))))))
   cases hr23
   intro a w hS hA
   refine ret3 hA rfl rfl rfl rfl ?_
   exact ⟨rfl, hS.ext⟩
  ·replace hc22 := nbf hc22
   have hr24 := if_p hc22 hr18
   refine sk (sq (rg (ldA G37 Z37 rfl rfl (sS 0 rfl hK6) rfl (m1 rfl (m1 rfl ?_)))))
   obtain ⟨r25, hx26, hr27⟩ := bd_some hr24
   refine clK C35 rfl rfl rfl rfl (fun w H hH le => w35 hH v_0 (RVolume.mono _ _ _ _ (le.at 1 rfl) hh_v_0) (h_errata.mono (Flat.mono _) (le.at 1 rfl)) to_3 hx26) ?_
   rintro v_ K28 ⟨q29, cs30, rfl, hc31, hr32⟩
   have hr33 := hr32
   obtain ⟨ad34, cap35, ad37, cap38, rfl, hl36, hl39⟩ := hr32
   have := hl36.len
   have := hl39.len
   refine a1 rfl (on (sq (rg (m1 rfl (m1 rfl ?_)))))
   obtain ⟨t74, hx75, hr76⟩ := bd_some hr27
   refine clI C41 Tryz.func41 rfl Tryz.ntmps41 rfl rfl rfl rfl (fun v w => (v = .tuple [.int .i64 (t74.2.1 : Int), .int .i64 (t74.1 : Int), .bool t74.2.2].toArray ∧ St M W H [K28, K5, H] [] w)) ?_ ?_
   ·refine sq (rg (a1 rfl (a1 rfl (a1 rfl (on (sc (sq (lb (sq (sq (rg ?_)))))))))))
    refine m1 rfl (nl rfl rfl (fb 5 U90 rfl rfl rfl rfl Z88 (ld G88 rfl rfl ((sS 0 rfl hc31).drop 5) rfl (lnL U88 rfl rfl (m1 rfl (on ?_))))))
    obtain ⟨e110, hl111, hr112⟩ := bd_some hx75
    refine jn (fun a w => St M W H [K28, K5, H] [] w ∧ Has [] 40 a [(4, .int .i64 (e110.1 : Int)), (5, .int .i64 (e110.2.1 : Int)), (6, .bool e110.2.2)]) ?_ ?_
    ·refine bk ?_
     refine lp hl111 (fun s113 a w => St M W H [K28, K5, H] [] w ∧ Has [] 40 a [(1, .int .i64 anchor), (4, .int .i64 (s113.1 : Int)), (5, .int .i64 (s113.2.1 : Int)), (6, .bool s113.2.2.2), (14, .slice ad37 r25.parts.length cap38), (15, .int .i64 (r25.parts.length : Int)), (16, .int .i64 (s113.2.2.1 : Int))]) ?_ ?_
     ·exact cu ⟨rfl, rfl, rfl, rfl, rfl, rfl, rfl, tv⟩
     ·rintro j s113 y116 hr114 hz115 a w ⟨hS, hA⟩
      refine TG.ap ?_ hS hA
      unfold m23_1 at hr114
      refine sq (rg (ltI rfl rfl rfl (on (sq ?_))))
      refine ci rfl (fun hc120 => ?_) (fun hc120 => ?_)
      ·have hr121 := if_p hc120 hr114
       refine sk (sq (bk (sq (rg (m1 rfl ?_)))))
       obtain ⟨x151, hx152, hr153⟩ := bd_some hr121
       obtain ⟨p154, rfl⟩ := hl39.adr hx152
       obtain ⟨cs155, hcs156, hq157, hr158⟩ := hl39.at hx152
       have hr159 := hr158
       obtain ⟨ad160, cap161, rfl, hl162⟩ := hr158
       have := hl162.len
       refine iaP U88 Z93 rfl rfl rfl rfl (lt_of hx152) (ld G93 rfl rfl (sS 0 rfl hq157) rfl (a1 rfl (a1 rfl (on (sq (rg (m1 rfl (lnL U93 rfl rfl (m1 rfl (on ?_))))))))))
       obtain ⟨e179, hl180, hr181⟩ := bd_some hr153
       refine jn (fun a w => ∃ t182, e179 = .inl t182 ∧ St M W H [K28, K5, H] [] w ∧ Has [] 40 a [(1, .int .i64 anchor), (4, .int .i64 (t182.1 : Int)), (5, .int .i64 (t182.2.1 : Int)), (6, .bool t182.2.2), (14, .slice (some p154) r25.parts.length cap38), (15, .int .i64 (r25.parts.length : Int)), (16, .int .i64 (s113.2.2.1 : Int))]) ?_ ?_
       ·refine bk ?_
        refine lp hl180 (fun s183 a w => St M W H [K28, K5, H] [] w ∧ Has [] 40 a [(1, .int .i64 anchor), (4, .int .i64 (s183.1 : Int)), (5, .int .i64 (s183.2.1 : Int)), (6, .bool s183.2.2.2), (7, .int .i64 (s113.2.2.1 : Int)), (14, .slice (some p154) r25.parts.length cap38), (15, .int .i64 (r25.parts.length : Int)), (16, .int .i64 (s113.2.2.1 : Int)), (21, .slice ad160 x151.length cap161), (22, .int .i64 (x151.length : Int)), (23, .int .i64 (s183.2.2.1 : Int))]) ?_ ?_
        ·exact cu ⟨rfl, rfl, rfl, rfl, rfl, rfl, rfl, rfl, rfl, rfl, rfl, tv⟩
        ·rintro j s183 y186 hr184 hz185 a w ⟨hS, hA⟩
         refine TG.ap ?_ hS hA
         unfold m23_2 at hr184
         refine sq (rg (ltI rfl rfl rfl (on (sq ?_))))
         refine ci rfl (fun hc190 => ?_) (fun hc190 => ?_)
         ·have hr191 := if_p hc190 hr184
          refine sk (sq (bk (sq (rg (m1 rfl ?_)))))
          obtain ⟨x204, hx205, hr206⟩ := bd_some hr191
          obtain ⟨p207, rfl⟩ := hl162.adr hx205
          obtain ⟨cs208, hcs209, hq210, hr211⟩ := hl162.at hx205
          obtain rfl := hr211
          refine iaP U93 Z95 rfl rfl rfl rfl (lt_of hx205) (ldA G95 Z95 rfl rfl (sS 0 rfl hq210) rfl (al 1 (cs := [.int .i64 0, .string (bs []), .bool false]) Tryz.zeroValue95 rfl rfl fun b212 => (a1 rfl (sto 1 (cs := [.int .i64 x204.paragraph.anchor, .string (bs x204.paragraph.text), .bool x204.removed]) Z95 rfl rfl rfl rfl rfl rfl rfl (on (sq (rg (fb 0 U95 rfl rfl rfl rfl Z67 (fb 0 U67 rfl rfl rfl rfl Z3 (ld G3 rfl rfl ((sO 1 rfl).take 1) rfl (m1 rfl ?_)))))))))))
          refine eqI rfl rfl rfl (on ?_)
          refine ci rfl (fun hc216 => ?_) (fun hc216 => ?_)
          ·have hr217 := if_p hc216 hr206
           refine sq (rg (m1 rfl (m1 rfl (a1 rfl (a1 rfl (a1 rfl (on (xt rfl ?_))))))))
           obtain ⟨z218, hr219, rfl⟩ := mp_some hr217
           obtain rfl := Fin.out hz185
           cases hr181
           refine TG.del 1 ?_
           cases hr219
           obtain rfl := Fin.out hz115
           exact cu ⟨rfl, rfl, rfl, tv⟩
          ·have hr220 := if_n hc216 hr206
           refine sk (rg (adI rfl rfl rfl (by omega) (m1 rfl (on (TG.del 1 ?_)))))
           cases hr220
           intro a w hS hA
           exact ⟨_, hz185, hS, hA.cut ⟨rfl, rfl, rfl, rfl, rfl, rfl, rfl, rfl, rfl, rfl, rfl, tv⟩⟩
         ·have hr221 := if_n hc190 hr184
          refine xt rfl ?_
          cases hr221
          obtain rfl := Fin.out hz185
          intro a w hS hA
          exact ⟨_, rfl, hS, hA.cut ⟨rfl, rfl, rfl, rfl, rfl, rfl, rfl, tv⟩⟩
       ·rintro a w ⟨t182, rfl, hS, hA⟩
        refine TG.ap ?_ hS hA
        refine rg (adI rfl rfl rfl (by omega) (m1 rfl (on ?_)))
        cases hr181
        intro a w hS hA
        exact ⟨_, hz115, hS, hA.cut ⟨rfl, rfl, rfl, rfl, rfl, rfl, rfl, tv⟩⟩
      ·have hr222 := if_n hc120 hr114
       refine xt rfl ?_
       cases hr222
       obtain rfl := Fin.out hz115
       exact cu ⟨rfl, rfl, rfl, tv⟩
    ·rintro a w ⟨hS, hA⟩
     refine TG.ap ?_ hS hA
     refine sq (rg (m1 rfl (m1 rfl (m1 rfl (a1 rfl (a1 rfl (a1 rfl (on (rt_ ?_)))))))))
     cases hr112
     intro a w hS hA
     refine ret3 hA rfl rfl rfl rfl ?_
     exact ⟨_, rfl, ⟨rfl, hS⟩⟩
   ·rintro a w v hA (⟨rfl, hS⟩)
    refine putK rfl hA hS (m1 rfl (ex rfl rfl rfl (ex rfl rfl rfl (ex rfl rfl rfl (a1 rfl (a1 rfl (a1 rfl (on (sq (sq (rg ?_)))))))))))
    refine m1 rfl (nt rfl rfl (on ?_))
    refine cb rfl (fun hc226 => ?_) (fun hc226 => ?_)
    ·replace hc226 := nbt hc226
     have hr227 := if_f hc226 hr76
     refine sq (rg (a1 rfl (a1 rfl (a1 rfl (on (rt_ ?_))))))
     cases hr227
     intro a w hS hA
     refine ret3 hA rfl rfl rfl rfl ?_
     exact ⟨rfl, hS.ext⟩
    ·replace hc226 := nbf hc226
     have hr228 := if_p hc226 hr76
     refine sk (sq (rg (m1 rfl (nl rfl rfl (fb 5 U90 rfl rfl rfl rfl Z88 (ld G88 rfl rfl ((sS 0 rfl hc31).drop 5) rfl (m1 rfl ?_)))))))
     obtain ⟨x229, hx230, hr231⟩ := bd_some hr228
     obtain ⟨p232, rfl⟩ := hl39.adr hx230
     obtain ⟨cs233, hcs234, hq235, hr236⟩ := hl39.at hx230
     have hr237 := hr236
     obtain ⟨ad238, cap239, rfl, hl240⟩ := hr236
     have := hl240.len
     refine iaP U88 Z93 rfl rfl rfl rfl (lt_of hx230) (ld G93 rfl rfl (sS 0 rfl hq235) rfl (m1 rfl ?_))
     obtain ⟨x241, hx242, hr243⟩ := bd_some hr231
     obtain ⟨p244, rfl⟩ := hl240.adr hx242
     obtain ⟨cs245, hcs246, hq247, hr248⟩ := hl240.at hx242
     obtain rfl := hr248
     refine iaP U93 Z95 rfl rfl rfl rfl (lt_of hx242) (ldA G95 Z95 rfl rfl (sS 0 rfl hq247) rfl (va (cs := [.int .i64 x241.paragraph.anchor, .string (bs x241.paragraph.text), .bool x241.removed]) Tryz.zeroValue95 Z95 rfl rfl rfl rfl rfl rfl rfl rfl fun q249 K250 hK251 => (on (sq ?_))))
     refine TG.cut (L' := [(0, .agg [.int .i64 v_0.number, .int .i64 v_0.bound, .int .i64 v_0.height, .int .i64 v_0.width, .slice ad1 v_0.parts.length cap2].toArray), (1, .slice ad_errata errata.length cap_errata), (2, .int .i64 anchor), (3, .int .i64 to_3), (4, .pointer (some q4)), (9, .bool false), (10, .int .i64 0), (11, .int .i64 r7), (12, .pointer (some q29)), (13, .int .i64 (t74.2.1 : Int)), (14, .int .i64 (t74.1 : Int)), (15, .bool t74.2.2), (16, .pointer (some q249)), (17, .agg [.int .i64 v_0.number, .int .i64 v_0.bound, .int .i64 v_0.height, .int .i64 v_0.width, .slice ad1 v_0.parts.length cap2].toArray), (18, .slice ad_errata errata.length cap_errata), (19, .int .i64 r7), (20, .int .i64 r7), (21, .bool (decide (r7 ≠ 0))), (23, .int .i64 to_3), (24, .bool r16), (25, .bool (!r16)), (26, .agg [.int .i64 v_0.number, .int .i64 v_0.bound, .int .i64 v_0.height, .int .i64 v_0.width, .slice ad1 v_0.parts.length cap2].toArray), (27, .slice ad_errata errata.length cap_errata), (28, .int .i64 to_3), (29, .pointer (some q29)), (30, .tuple [.int .i64 (t74.2.1 : Int), .int .i64 (t74.1 : Int), .bool t74.2.2].toArray), (31, .pointer (some q29)), (32, .int .i64 anchor), (33, .tuple [.int .i64 (t74.2.1 : Int), .int .i64 (t74.1 : Int), .bool t74.2.2].toArray), (34, .int .i64 (t74.2.1 : Int)), (35, .int .i64 (t74.1 : Int)), (36, .bool t74.2.2), (37, .bool t74.2.2), (38, .bool (!t74.2.2)), (39, .pointer (some q29)), (40, .pointer (some q29)), (41, .pointer (some (q29.add 5))), (42, .slice (some p232) r25.parts.length cap38), (43, .int .i64 (t74.2.1 : Int)), (44, .pointer (some (p232.add (t74.2.1 * 1)))), (45, .slice (some p244) x229.length cap239), (46, .int .i64 (t74.1 : Int)), (47, .pointer (some (p244.add (t74.1 * 3)))), (48, .agg [.int .i64 x241.paragraph.anchor, .string (bs x241.paragraph.text), .bool x241.removed].toArray)]) ⟨rfl, rfl, rfl, rfl, rfl, rfl, rfl, rfl, rfl, rfl, rfl, rfl, rfl, rfl, rfl, rfl, rfl, rfl, rfl, rfl, rfl, rfl, rfl, rfl, rfl, rfl, rfl, rfl, rfl, rfl, rfl, rfl, rfl, rfl, rfl, rfl, rfl, rfl, rfl, rfl, rfl, rfl, rfl, rfl, tv⟩ ?_
     refine drG 6 mixed (by kernel_rfl) rfl (dt rfl (fb 0 U95 rfl rfl rfl rfl Z67 fin1) (dt rfl (fb 1 U67 rfl rfl rfl rfl Z9 fin1) (dt rfl (ld G9 rfl rfl (((sS 1 rfl hK251).drop 1).take 1) rfl fin1) (dt rfl (fb 2 U95 rfl rfl rfl rfl Z4 fin1) (dt rfl (ld G4 rfl rfl ((sS 1 rfl hK251).drop 2) rfl fin1) (dt rfl (a1 rfl fin1) (DF.nil fun K252 hF => (a1 rfl (a1 rfl (on (rt_ ?_)))))))))))
     cases hr243
     intro a w hS hA
     refine ret3 hA rfl rfl rfl rfl ?_
     exact ⟨rfl, hS.ext⟩

theorem w20 {M : Prop} {W : World} {H : Hp} (hH : H.le (hp W)) (hg : Gv M H) {cs_v_0 : List Value} (v_0 : Volume) (h_v_0 : (RVolume) H cs_v_0 v_0) {ad_errata : Option Addr} {cap_errata : Nat} {errata : List Erratum} (h_errata : Sl (Flat encErratum) 6 H ad_errata cap_errata errata) (anchor : Int) (style : Int) (to_4 : Int) {r : Bytes × Int} (hr : m20 v_0 errata anchor style to_4 = some r) : Calls Tryz.prog 20 [.agg cs_v_0.toArray, .slice ad_errata errata.length cap_errata, .int .i64 anchor, .int .u8 style, .int .i64 to_4].toArray W (RetS M W (.tuple [.string (bs r.1), .int .i64 r.2].toArray)) := by
 have hh_v_0 := h_v_0
 obtain ⟨ad1, cap2, rfl, hl3⟩ := h_v_0
 have := hl3.len
 have := h_errata.len
 unfold m20 at hr
 refine enterG (M := M) Tryz.func20 rfl Tryz.ntmps20 rfl hH ?_
 refine sq (rg (bI (cs := [.int .i64 v_0.number, .int .i64 v_0.bound, .int .i64 v_0.height, .int .i64 v_0.width, .slice ad1 v_0.parts.length cap2]) rfl rfl rfl fun q4 K5 hK6 => (a1 rfl (a1 rfl (on (sq (sq (rg (ldA G37 Z37 rfl rfl (sS 0 rfl hK6) rfl (m1 rfl ?_))))))))))
 obtain ⟨r7, hx8, hr9⟩ := bd_some hr
 refine clS C33 rfl rfl rfl rfl (fun w H hH le => w33 hH v_0 (RVolume.mono _ _ _ _ (le.at 1 rfl) hh_v_0) (h_errata.mono (Flat.mono _) (le.at 1 rfl)) hx8) (a1 rfl (on (sq (rg (m1 rfl (neI rfl rfl rfl (on ?_)))))))
 refine ci rfl (fun hc13 => ?_) (fun hc13 => ?_)
 ·have hr14 := if_p hc13 hr9
  refine sq (rg (m1 rfl (a1 rfl (a1 rfl (on (rt_ ?_))))))
  cases hr14
  intro a w hS hA
  refine ret2 hA rfl rfl rfl ?_
  exact ⟨rfl, hS.ext⟩
 ·have hr15 := if_n hc13 hr9
  refine sk (sq (sq ?_))
  obtain ⟨t25, hx26, hr27⟩ := bd_some hr15
  refine jn (fun a w => St M W H [K5, H] [] w ∧ Has [] 104 a [(1, .slice ad_errata errata.length cap_errata), (2, .int .i64 anchor), (3, .int .u8 style), (4, .int .i64 to_4), (5, .pointer (some q4)), (34, .bool t25)]) ?_ ?_
  ·refine rg (m1 rfl (gtI rfl rfl rfl (m1 rfl ?_)))
   by_cases hb28 : 2 < style
   ·have hr29 := if_p hb28 hx26
    refine gf' hb28 rfl (gf' hb28 rfl (gf' hb28 rfl (gU rfl rfl rfl (gU rfl rfl rfl (gU rfl rfl rfl (gf' hb28 rfl (pt hb28 rfl rfl (on ?_))))))))
    cases hr29
    exact cu ⟨rfl, rfl, rfl, rfl, rfl, rfl, tv⟩
   ·have hr30 := if_n hb28 hx26
    refine gt' hb28 rfl (m1 rfl (gt' hb28 rfl (eqI rfl rfl rfl (gt' hb28 rfl (m1 rfl ?_)))))
    by_cases hb31 : style = 2
    ·have hr32 := if_p hb31 hr30
     refine gt hb31 rfl (m1 rfl (gt hb31 rfl ?_))
     obtain ⟨r33, hx34, hr35⟩ := bd_some hr32
     refine clS C34 rfl rfl rfl rfl (fun w H hH le => w34 to_4 hx34) (gt hb31 rfl (nt rfl rfl (gt' hb28 rfl (pt hb31 rfl rfl (pf hb28 rfl rfl (on ?_))))))
     cases hr35
     exact cu ⟨rfl, rfl, rfl, rfl, rfl, rfl, tv⟩
    ·have hr36 := if_n hb31 hr30
     refine gf hb31 rfl (gf hb31 rfl (gf hb31 rfl (gt' hb28 rfl (pf hb31 rfl rfl (pf hb28 rfl rfl (on ?_))))))
     cases hr36
     exact cu ⟨rfl, rfl, rfl, rfl, rfl, rfl, tv⟩
  ·rintro a w ⟨hS, hA⟩
   refine TG.ap ?_ hS hA
   refine cb rfl (fun hc40 => ?_) (fun hc40 => ?_)
   ·have hr41 := if_p hc40 hr27
    refine sq (rg (a1 rfl (a1 rfl (on (rt_ ?_)))))
    cases hr41
    intro a w hS hA
    refine ret2 hA rfl rfl rfl ?_
    exact ⟨rfl, hS.ext⟩
   ·have hr42 := if_f hc40 hr27
    refine sk (sq (sq (rg (m1 rfl (eqI rfl rfl rfl (on ?_))))))
    refine ci rfl (fun hc60 => ?_) (fun hc60 => ?_)
    ·have hr61 := if_p hc60 hr42
     refine sq (sq (rg (ldA G37 Z37 rfl rfl (sS 0 rfl hK6) rfl (m1 rfl (m1 rfl (m1 rfl ?_))))))
     obtain ⟨r62, hx63, hr64⟩ := bd_some hr61
     refine clS C23 rfl rfl rfl rfl (fun w H hH le => w23 hH v_0 (RVolume.mono _ _ _ _ (le.at 1 rfl) hh_v_0) (h_errata.mono (Flat.mono _) (le.at 1 rfl)) anchor to_4 hx63) (m1 rfl (ex rfl rfl rfl (ex rfl rfl rfl (ex rfl rfl rfl (a1 rfl (a1 rfl (a1 rfl (on (sq (rg (m1 rfl ?_)))))))))))
     refine neI rfl rfl rfl (on ?_)
     refine ci rfl (fun hc68 => ?_) (fun hc68 => ?_)
     ·have hr69 := if_p hc68 hr64
      refine sq (rg (m1 rfl (a1 rfl (a1 rfl (on (rt_ ?_))))))
      cases hr69
      intro a w hS hA
      refine ret2 hA rfl rfl rfl ?_
      exact ⟨rfl, hS.ext⟩
     ·have hr70 := if_n hc68 hr64
      refine sk (sq (rg (m1 rfl (fi U3 rfl rfl rfl (fi U9 rfl rfl rfl (m1 rfl (fi U3 rfl rfl rfl (bS (cs := [.iface 3 (.int .i64 anchor), .iface 9 (.string (bs [64])), .iface 3 (.int .i64 to_4)]) T10.E139 rfl rfl rfl rfl fun q71 K72 hq73 hK74 => ?_))))))))
      have hl75 : Sl (Flat encAny) 1 K72 (some q71) 3 ([(.i anchor : Any), (.s [64] : Any), (.i to_4 : Any)] : List Any) := Sl.litR (css := [[.iface 3 (.int .i64 anchor)], [.iface 9 (.string (bs [64]))], [.iface 3 (.int .i64 to_4)]]) (l := ([(.i anchor : Any), (.s [64] : Any), (.i to_4 : Any)] : List Any)) ⟨⟨rfl, rfl, rfl⟩, ⟨rfl, rfl, rfl⟩, ⟨rfl, rfl, rfl⟩, tv⟩ hq73 hK74 rfl
      have := hl75.len
      obtain ⟨r76, hx77, hr78⟩ := bd_some hr70
      refine clS C38 rfl rfl rfl rfl (fun w H hH le => w38 hH (hg.mono (le.at 2 rfl)) (hl75.mono (Flat.mono _) (le.at 0 rfl)) hx77) (a1 rfl (a1 rfl (on (rt_ ?_))))
      cases hr78
      intro a w hS hA
      refine ret2 hA rfl rfl rfl ?_
      exact ⟨rfl, hS.ext⟩
    ·have hr79 := if_n hc60 hr42
     refine sk (sq (sq (rg (ldA G37 Z37 rfl rfl (sS 0 rfl hK6) rfl (m1 rfl ?_)))))
     obtain ⟨r80, hx81, hr82⟩ := bd_some hr79
     refine clK C37 rfl rfl rfl rfl (fun w H hH le => w37 hH v_0 (RVolume.mono _ _ _ _ (le.at 1 rfl) hh_v_0) (h_errata.mono (Flat.mono _) (le.at 1 rfl)) hx81) ?_
     rintro v_ K83 ⟨ad84, cap85, rfl, hl86⟩
     have := hl86.len
     refine lnL U100 rfl rfl (m1 rfl (on ?_))
     obtain ⟨e124, hl125, hr126⟩ := bd_some hr82
     refine jn (fun a w => ∃ t127, e124 = .inl t127 ∧ St M W H [K83, K5, H] [] w ∧ Has [] 104 a []) ?_ ?_
     ·refine bk ?_
      refine lp hl125 (fun s128 a w => St M W H [K83, K5, H] [] w ∧ Has [] 104 a [(2, .int .i64 anchor), (3, .int .u8 style), (5, .pointer (some q4)), (58, .slice ad84 r80.length cap85), (59, .int .i64 (r80.length : Int)), (60, .int .i64 (s128 : Int))]) ?_ ?_
      ·exact cu ⟨rfl, rfl, rfl, rfl, rfl, rfl, tv⟩
      ·rintro j s128 y131 hr129 hz130 a w ⟨hS, hA⟩
       refine TG.ap ?_ hS hA
       unfold m20_1 at hr129
       refine sq (rg (ltI rfl rfl rfl (on (sq ?_))))
       refine ci rfl (fun hc135 => ?_) (fun hc135 => ?_)
       ·have hr136 := if_p hc135 hr129
        refine sk (sq (bk (sq (rg ?_))))
        obtain ⟨x170, hx171, hr172⟩ := bd_some hr136
        obtain ⟨p173, rfl⟩ := hl86.adr hx171
        obtain ⟨cs174, hcs175, hq176, hr177⟩ := hl86.at hx171
        obtain rfl := hr177
        refine iaP U100 Z103 rfl rfl rfl rfl (lt_of hx171) (ldA G103 Z103 rfl rfl (sS 0 rfl hq176) rfl (va (cs := [.int .i64 x170.place.anchor, .int .i64 x170.place.column, .int .i64 x170.place.line, .int .i64 x170.place.lines, .int .i64 x170.day, .int .i64 x170.number]) Tryz.zeroValue103 Z103 rfl rfl rfl rfl rfl rfl rfl rfl fun q178 K179 hK180 => (on (bk (sq (rg (fb 0 U103 rfl rfl rfl rfl Z63 (fb 0 U63 rfl rfl rfl rfl Z3 (ld G3 rfl rfl ((sS 0 rfl hK180).take 1) rfl (m1 rfl (neI rfl rfl rfl ?_)))))))))))
        refine a1 rfl (on ?_)
        refine ci rfl (fun hc225 => ?_) (fun hc225 => ?_)
        ·have hr226 := if_p hc225 hr172
         refine sk (rg (adI rfl rfl rfl (by omega) (m1 rfl (on ?_))))
         cases hr226
         intro a w hS hA
         exact ⟨_, hz130, hS.selH [1, 2, 3] rfl, hA.cut ⟨rfl, rfl, rfl, rfl, rfl, rfl, tv⟩⟩
        ·have hr227 := if_n hc225 hr172
         refine sq (rg (m1 rfl (eqI rfl rfl rfl (a1 rfl (on ?_)))))
         refine ci rfl (fun hc247 => ?_) (fun hc247 => ?_)
         ·have hr248 := if_p hc247 hr227
          refine sq (rg (fi U9 rfl rfl rfl (fb 0 U37 rfl rfl rfl rfl Z3 (ld G3 rfl rfl ((sS 2 rfl hK6).take 1) rfl (fi U3 rfl rfl rfl (fi U9 rfl rfl rfl (fb 0 U103 rfl rfl rfl rfl Z63 (fb 1 U63 rfl rfl rfl rfl Z3 (ld G3 rfl rfl (((sS 0 rfl hK180).drop 1).take 1) rfl (fi U3 rfl rfl rfl (fi U9 rfl rfl rfl ?_)))))))))))
          refine fb 0 U103 rfl rfl rfl rfl Z63 (fb 2 U63 rfl rfl rfl rfl Z3 (ld G3 rfl rfl (((sS 0 rfl hK180).drop 2).take 1) rfl (fi U3 rfl rfl rfl (bS (cs := [.iface 9 (.string (bs [118, 111, 108, 46, 32])), .iface 3 (.int .i64 v_0.number), .iface 9 (.string (bs [44, 32, 99, 111, 108, 46, 32])), .iface 3 (.int .i64 x170.place.column), .iface 9 (.string (bs [44, 32, 108, 46, 32])), .iface 3 (.int .i64 x170.place.line)]) T10.E139 rfl rfl rfl rfl fun q249 K250 hq251 hK252 => ?_))))
          have hl253 : Sl (Flat encAny) 1 K250 (some q249) 6 ([(.s [118, 111, 108, 46, 32] : Any), (.i v_0.number : Any), (.s [44, 32, 99, 111, 108, 46, 32] : Any), (.i x170.place.column : Any), (.s [44, 32, 108, 46, 32] : Any), (.i x170.place.line : Any)] : List Any) := Sl.litR (css := [[.iface 9 (.string (bs [118, 111, 108, 46, 32]))], [.iface 3 (.int .i64 v_0.number)], [.iface 9 (.string (bs [44, 32, 99, 111, 108, 46, 32]))], [.iface 3 (.int .i64 x170.place.column)], [.iface 9 (.string (bs [44, 32, 108, 46, 32]))], [.iface 3 (.int .i64 x170.place.line)]]) (l := ([(.s [118, 111, 108, 46, 32] : Any), (.i v_0.number : Any), (.s [44, 32, 99, 111, 108, 46, 32] : Any), (.i x170.place.column : Any), (.s [44, 32, 108, 46, 32] : Any), (.i x170.place.line : Any)] : List Any)) ⟨⟨rfl, rfl, rfl⟩, ⟨rfl, rfl, rfl⟩, ⟨rfl, rfl, rfl⟩, ⟨rfl, rfl, rfl⟩, ⟨rfl, rfl, rfl⟩, ⟨rfl, rfl, rfl⟩, tv⟩ hq251 hK252 rfl
          have := hl253.len
          obtain ⟨r254, hx255, hr256⟩ := bd_some hr248
          refine clS C38 rfl rfl rfl rfl (fun w H hH le => w38 hH (hg.mono (le.at 4 rfl)) (hl253.mono (Flat.mono _) (le.at 0 rfl)) hx255) (a1 rfl (a1 rfl (on (rt_ ?_))))
          cases hr256
          obtain rfl := Fin.out hz130
          cases hr126
          intro a w hS hA
          refine ret2 hA rfl rfl rfl ?_
          exact ⟨rfl, hS.ext⟩
         ·have hr257 := if_n hc247 hr227
          refine sq (rg (fi U9 rfl rfl rfl (fb 0 U37 rfl rfl rfl rfl Z3 (ld G3 rfl rfl ((sS 2 rfl hK6).take 1) rfl (fi U3 rfl rfl rfl (fi U9 rfl rfl rfl (fb 4 U103 rfl rfl rfl rfl Z3 (ld G3 rfl rfl (((sS 0 rfl hK180).drop 4).take 1) rfl (fi U3 rfl rfl rfl (fi U9 rfl rfl rfl (fb 5 U103 rfl rfl rfl rfl Z3 ?_)))))))))))
          refine ld G3 rfl rfl ((sS 0 rfl hK180).drop 5) rfl (fi U3 rfl rfl rfl (bS (cs := [.iface 9 (.string (bs [118, 111, 108, 46, 32])), .iface 3 (.int .i64 v_0.number), .iface 9 (.string (bs [44, 32])), .iface 3 (.int .i64 x170.day), .iface 9 (.string (bs [44, 32, 112, 97, 114, 46, 32])), .iface 3 (.int .i64 x170.number)]) T10.E139 rfl rfl rfl rfl fun q258 K259 hq260 hK261 => ?_))
          have hl262 : Sl (Flat encAny) 1 K259 (some q258) 6 ([(.s [118, 111, 108, 46, 32] : Any), (.i v_0.number : Any), (.s [44, 32] : Any), (.i x170.day : Any), (.s [44, 32, 112, 97, 114, 46, 32] : Any), (.i x170.number : Any)] : List Any) := Sl.litR (css := [[.iface 9 (.string (bs [118, 111, 108, 46, 32]))], [.iface 3 (.int .i64 v_0.number)], [.iface 9 (.string (bs [44, 32]))], [.iface 3 (.int .i64 x170.day)], [.iface 9 (.string (bs [44, 32, 112, 97, 114, 46, 32]))], [.iface 3 (.int .i64 x170.number)]]) (l := ([(.s [118, 111, 108, 46, 32] : Any), (.i v_0.number : Any), (.s [44, 32] : Any), (.i x170.day : Any), (.s [44, 32, 112, 97, 114, 46, 32] : Any), (.i x170.number : Any)] : List Any)) ⟨⟨rfl, rfl, rfl⟩, ⟨rfl, rfl, rfl⟩, ⟨rfl, rfl, rfl⟩, ⟨rfl, rfl, rfl⟩, ⟨rfl, rfl, rfl⟩, ⟨rfl, rfl, rfl⟩, tv⟩ hq260 hK261 rfl
          have := hl262.len
          obtain ⟨r263, hx264, hr265⟩ := bd_some hr257
          refine clS C38 rfl rfl rfl rfl (fun w H hH le => w38 hH (hg.mono (le.at 4 rfl)) (hl262.mono (Flat.mono _) (le.at 0 rfl)) hx264) (a1 rfl (a1 rfl (on (rt_ ?_))))
          cases hr265
          obtain rfl := Fin.out hz130
          cases hr126
          intro a w hS hA
          refine ret2 hA rfl rfl rfl ?_
          exact ⟨rfl, hS.ext⟩
       ·have hr266 := if_n hc135 hr129
        refine xt rfl ?_
        cases hr266
        obtain rfl := Fin.out hz130
        intro a w hS hA
        exact ⟨_, rfl, hS, hA.cut tv⟩
     ·rintro a w ⟨t127, rfl, hS, hA⟩
      refine TG.ap ?_ hS hA
      refine sq (rg (a1 rfl (a1 rfl (on (rt_ ?_)))))
      cases hr126
      intro a w hS hA
      refine ret2 hA rfl rfl rfl ?_
      exact ⟨rfl, hS.ext⟩

theorem w61 {M : Prop} {W : World} {H : Hp} (hH : H.le (hp W)) (hg : Gv M H) (cite : Bytes) {r : cited ⊕ Unit} (hr : m61 cite = some r) : Calls Tryz.prog 61 [.string (bs cite)].toArray W (RetT M W (fun r => .agg (enccited r).toArray) (.iface 153 (.agg [.string (bs cite)].toArray)) r) := by
 unfold m61 at hr
 refine enterG (M := M) Tryz.func61 rfl Tryz.ntmps61 rfl hH ?_
 refine sq (rg (bI (cs := [.string (bs cite)]) rfl rfl rfl fun q1 K2 hK3 => (al 1 (cs := [.int .u8 0, .int .i64 0, .int .i64 0, .int .i64 0]) Tryz.zeroValue106 rfl rfl fun b4 => (on (sq (rg (ld G9 rfl rfl (sS 0 rfl hK3) rfl (al 2 (cs := [.string (bs [])]) Tryz.zeroValue9 rfl rfl fun b5 => (sto 2 (cs := [.string (bs cite)]) Z9 rfl rfl rfl rfl rfl rfl rfl (on (sq ?_)))))))))))
 refine rg (fn rfl rfl rfl (a1 rfl (on (sq (rg (ld G9 rfl rfl (sS 0 rfl hK3) rfl ?_))))))
 obtain ⟨r6, hx7, hr8⟩ := bd_some hr
 refine clS C88 rfl rfl rfl rfl (fun w H hH le => w88 hH (hg.mono (le.at 1 rfl)) cite [118, 111, 108, 46, 32] hx7) (m1 rfl (ex rfl rfl rfl (ex rfl rfl rfl (a1 rfl (a1 rfl (on (sq (bk (sq (rg (m1 rfl ?_)))))))))))
 refine nt rfl rfl (a1 rfl (on ?_))
 obtain ⟨t506, hx507, hr508⟩ := bd_some hr8
 refine jn (fun a w => ∃ t509, t506 = .inl t509 ∧ St M W H [K2, H] [(2, cel b5 9 [.string (bs t509.2.2.2.2)]), (1, cel b4 106 [.int .u8 t509.1, .int .i64 t509.2.1, .int .i64 t509.2.2.1, .int .i64 t509.2.2.2.1])] w ∧ Has [] 58 a [(1, .pointer (some q1)), (2, .pointer (some (⟨b4, 0, none⟩)))]) ?_ ?_
 ·refine cb rfl (fun hc510 => ?_) (fun hc510 => ?_)
  ·replace hc510 := nbt hc510
   have hr511 := if_f hc510 hx507
   refine rg (m1 rfl ?_)
   obtain ⟨t540, hx541, hr542⟩ := bd_some hr511
   refine clIT C85 Tryz.func85 rfl Tryz.ntmps85 rfl rfl rfl rfl (fun v w => (∃ (t543 : Int × Bytes), t540 = (.inl t543) ∧ v = .int .i64 t543.1 ∧ St M W H [K2, H] [(2, cel b5 9 [.string (bs t543.2)]), (1, cel b4 106 [.int .u8 0, .int .i64 0, .int .i64 0, .int .i64 0])] w)) _ (fun _ _ _ hA h => ⟨hA.defers, h⟩) ?_ ?_
   ·refine sq (rg (a1 rfl (on (sq (rg (ld G9 rfl rfl (sO 2 rfl) rfl (a1 rfl (on (sq (sq (rg ?_)))))))))))
    refine m1 rfl (neS rfl rfl rfl (on (cT rfl ((by decide : decide (([64] : Bytes) ≠ []) = true)) (sq (rg (ld G9 rfl rfl (sO 2 rfl) rfl (m1 rfl ?_)))))))
    obtain ⟨r544, hx545, hr546⟩ := bd_some hx541
    refine clS C86 rfl rfl rfl rfl (fun w H hH le => w86 hH (hg.mono (le.at 1 rfl)) cite [64] hx545) (m1 rfl (ex rfl rfl rfl (ex rfl rfl rfl (ex rfl rfl rfl (a1 rfl (a1 rfl (a1 rfl (on (sq (sq (rg ?_)))))))))))
    refine m1 rfl (nt rfl rfl (on ?_))
    refine cb rfl (fun hc550 => ?_) (fun hc550 => ?_)
    ·replace hc550 := nbt hc550
     have hr551 := if_f hc550 hr546
     refine rg (ld G9 rfl rfl (sS 0 rfl hK3) rfl (bu (cs := [.string (bs cite)]) T10.B153 rfl rfl rfl (fi U153 rfl rfl rfl (pnc rfl ?_))))
     cases hr551
     cases hr542
     cases hr508
     intro a w hS hA
     exact ⟨hA.defers, rtT_pan hS.ext⟩
    ·replace hc550 := nbf hc550
     have hr552 := if_p hc550 hr546
     refine sk (rg (m1 rfl (m1 rfl (a1 rfl (sto 2 (cs := [.string (bs r544.2.1)]) Z9 rfl rfl rfl rfl rfl rfl rfl (on (sq (rg (m1 rfl ?_)))))))))
     obtain ⟨r553, hx554, hr555⟩ := bd_some hr552
     refine clK C87 rfl rfl rfl rfl (fun w H hH le => w87 hH (hg.mono (le.at 1 rfl)) r544.1 hx554) ?_
     rintro v_ K556 ⟨er557, rfl, he558⟩
     refine m1 rfl (ex rfl rfl rfl (ex rfl rfl rfl (a1 rfl (a1 rfl (on (sq (sq ?_)))))))
     obtain ⟨t571, hx572, hr573⟩ := bd_some hr555
     refine jn (fun a w => St M W H [K556, K2, H] [(2, cel b5 9 [.string (bs r544.2.1)]), (1, cel b4 106 [.int .u8 0, .int .i64 0, .int .i64 0, .int .i64 0])] w ∧ Has [] 50 a [(2, .pointer (some q1)), (9, .int .i64 r553.1), (45, .bool t571)]) ?_ ?_
     ·refine rg (m1 rfl (neE U146 rfl rfl he558 (m1 rfl ?_)))
      rcases Bool.eq_false_or_eq_true (r553.2) with hb574 | hb574
      ·have hr575 := if_p hb574 hx572
       refine gF rfl rfl (hb574) rfl (gF rfl rfl (hb574) rfl (gF rfl rfl (hb574) rfl (gF rfl rfl (hb574) rfl (pT rfl rfl (hb574) rfl (m1 rfl (gF rfl rfl rfl rfl (gF rfl rfl rfl rfl (gF rfl rfl rfl rfl (pT rfl rfl rfl rfl (on ?_))))))))))
       cases hr575
       exact cu ⟨rfl, rfl, rfl, tv⟩
      ·have hr576 := if_f hb574 hx572
       refine gN rfl rfl (hb574) (m1 rfl (gN rfl rfl (hb574) ?_))
       obtain ⟨r577, hx578, hr579⟩ := bd_some hr576
       refine clS C58 rfl rfl rfl rfl (fun w H hH le => w58 hH (hg.mono (le.at 2 rfl)) r553.1 hx578) (gN rfl rfl (hb574) (m1 rfl (gN rfl rfl (hb574) (neS rfl rfl rfl (pF rfl rfl (hb574) rfl (m1 rfl ?_))))))
       by_cases hb580 : r577 ≠ r544.1
       ·have hr581 := if_p hb580 hr579
        refine gf' hb580 rfl (gf' hb580 rfl (gf' hb580 rfl (pt hb580 rfl rfl (on ?_))))
        cases hr581
        exact cu ⟨rfl, rfl, rfl, tv⟩
       ·have hr582 := if_n hb580 hr579
        refine gt' hb580 rfl (m1 rfl (gt' hb580 rfl ?_))
        obtain ⟨r583, hx584, hr585⟩ := bd_some hr582
        refine clS C40 rfl rfl rfl rfl (fun w H hH le => w40 r553.1 0 999999 hx584) (gt' hb580 rfl (nt rfl rfl (pf hb580 rfl rfl (on ?_))))
        cases hr585
        exact cu ⟨rfl, rfl, rfl, tv⟩
     ·rintro a w ⟨hS, hA⟩
      refine TG.ap ?_ hS hA
      refine cb rfl (fun hc589 => ?_) (fun hc589 => ?_)
      ·have hr590 := if_p hc589 hr573
       refine rg (ld G9 rfl rfl (sS 1 rfl hK3) rfl (bu (cs := [.string (bs cite)]) T10.B153 rfl rfl rfl (fi U153 rfl rfl rfl (pnc rfl ?_))))
       cases hr590
       cases hr542
       cases hr508
       intro a w hS hA
       exact ⟨hA.defers, rtT_pan hS.ext⟩
      ·have hr591 := if_f hc589 hr573
       refine sk (sq (rg (m1 rfl (a1 rfl (on (rt_ ?_))))))
       cases hr591
       intro a w hS hA
       refine ret1 hA rfl rfl ?_
       exact ⟨_, rfl, ⟨_, rfl, rfl, hS.selH [1, 2] rfl⟩⟩
   ·rintro a w v hA (⟨t543, rfl, rfl, hS⟩)
    refine putK rfl hA hS (m1 rfl ?_)
    obtain ⟨t614, hx615, hr616⟩ := bd_some hr542
    refine clIT C85 Tryz.func85 rfl Tryz.ntmps85 rfl rfl rfl rfl (fun v w => (∃ (t617 : Int), t614 = (.inl t617) ∧ v = .int .i64 t617 ∧ St M W H [K2, H] [(2, cel b5 9 [.string (bs t543.2)]), (1, cel b4 106 [.int .u8 0, .int .i64 0, .int .i64 0, .int .i64 0])] w)) _ (fun _ _ _ hA h => ⟨hA.defers, h⟩) ?_ ?_
    ·refine sq (rg (a1 rfl (on (sq (rg (ld G9 rfl rfl (sO 2 rfl) rfl (a1 rfl (on (sq (sq (rg ?_)))))))))))
     refine m1 rfl (neS rfl rfl rfl (on (cF rfl ((by decide : decide (([] : Bytes) ≠ []) = false)) (sk (sq (rg (m1 rfl ?_)))))))
     obtain ⟨r618, hx619, hr620⟩ := bd_some hx615
     refine clK C87 rfl rfl rfl rfl (fun w H hH le => w87 hH (hg.mono (le.at 1 rfl)) t543.2 hx619) ?_
     rintro v_ K621 ⟨er622, rfl, he623⟩
     refine m1 rfl (ex rfl rfl rfl (ex rfl rfl rfl (a1 rfl (a1 rfl (on (sq (sq ?_)))))))
     obtain ⟨t636, hx637, hr638⟩ := bd_some hr620
     refine jn (fun a w => St M W H [K621, K2, H] [(2, cel b5 9 [.string (bs t543.2)]), (1, cel b4 106 [.int .u8 0, .int .i64 0, .int .i64 0, .int .i64 0])] w ∧ Has [] 50 a [(2, .pointer (some q1)), (9, .int .i64 r618.1), (45, .bool t636)]) ?_ ?_
     ·refine rg (m1 rfl (neE U146 rfl rfl he623 (m1 rfl ?_)))
      rcases Bool.eq_false_or_eq_true (r618.2) with hb639 | hb639
      ·have hr640 := if_p hb639 hx637
       refine gF rfl rfl (hb639) rfl (gF rfl rfl (hb639) rfl (gF rfl rfl (hb639) rfl (gF rfl rfl (hb639) rfl (pT rfl rfl (hb639) rfl (m1 rfl (gF rfl rfl rfl rfl (gF rfl rfl rfl rfl (gF rfl rfl rfl rfl (pT rfl rfl rfl rfl (on ?_))))))))))
       cases hr640
       exact cu ⟨rfl, rfl, rfl, tv⟩
      ·have hr641 := if_f hb639 hx637
       refine gN rfl rfl (hb639) (m1 rfl (gN rfl rfl (hb639) ?_))
       obtain ⟨r642, hx643, hr644⟩ := bd_some hr641
       refine clS C58 rfl rfl rfl rfl (fun w H hH le => w58 hH (hg.mono (le.at 2 rfl)) r618.1 hx643) (gN rfl rfl (hb639) (m1 rfl (gN rfl rfl (hb639) (neS rfl rfl rfl (pF rfl rfl (hb639) rfl (m1 rfl ?_))))))
       by_cases hb645 : r642 ≠ t543.2
       ·have hr646 := if_p hb645 hr644
        refine gf' hb645 rfl (gf' hb645 rfl (gf' hb645 rfl (pt hb645 rfl rfl (on ?_))))
        cases hr646
        exact cu ⟨rfl, rfl, rfl, tv⟩
       ·have hr647 := if_n hb645 hr644
        refine gt' hb645 rfl (m1 rfl (gt' hb645 rfl ?_))
        obtain ⟨r648, hx649, hr650⟩ := bd_some hr647
        refine clS C40 rfl rfl rfl rfl (fun w H hH le => w40 r618.1 0 999999 hx649) (gt' hb645 rfl (nt rfl rfl (pf hb645 rfl rfl (on ?_))))
        cases hr650
        exact cu ⟨rfl, rfl, rfl, tv⟩
     ·rintro a w ⟨hS, hA⟩
      refine TG.ap ?_ hS hA
      refine cb rfl (fun hc654 => ?_) (fun hc654 => ?_)
      ·have hr655 := if_p hc654 hr638
       refine rg (ld G9 rfl rfl (sS 1 rfl hK3) rfl (bu (cs := [.string (bs cite)]) T10.B153 rfl rfl rfl (fi U153 rfl rfl rfl (pnc rfl ?_))))
       cases hr655
       cases hr616
       cases hr508
       intro a w hS hA
       exact ⟨hA.defers, rtT_pan hS.ext⟩
      ·have hr656 := if_f hc654 hr638
       refine sk (sq (rg (m1 rfl (a1 rfl (on (rt_ ?_))))))
       cases hr656
       intro a w hS hA
       refine ret1 hA rfl rfl ?_
       exact ⟨_, rfl, ⟨_, rfl, rfl, hS.selH [1, 2] rfl⟩⟩
    ·rintro a w v hA (⟨t617, rfl, rfl, hS⟩)
     refine putK rfl hA hS (buA (cs := [.int .i64 t543.1, .int .i64 t617, .int .i64 0]) T10.B69 rfl rfl rfl (bu (cs := [.int .u8 2, .int .i64 t543.1, .int .i64 t617, .int .i64 0]) T10.B106 rfl rfl rfl (sto 1 (cs := [.int .u8 2, .int .i64 t543.1, .int .i64 t617, .int .i64 0]) Z106 rfl rfl rfl rfl rfl rfl rfl (on ?_))))
     cases hr616
     intro a w hS hA
     exact ⟨_, rfl, hS, hA.cut ⟨rfl, rfl, tv⟩⟩
  ·replace hc510 := nbf hc510
   have hr657 := if_p hc510 hx507
   refine sq (rg (ld G9 rfl rfl (sS 0 rfl hK3) rfl ?_))
   obtain ⟨r658, hx659, hr660⟩ := bd_some hr657
   refine clS C89 rfl rfl rfl rfl (fun w H hH le => w89 hH (hg.mono (le.at 1 rfl)) cite [99, 111, 108, 46, 32] hx659) (a1 rfl (on ?_))
   obtain ⟨t844, hx845, hr846⟩ := bd_some hr660
   refine jn (fun a w => ∃ t847, t844 = .inl t847 ∧ St M W H [K2, H] [(2, cel b5 9 [.string (bs t847.2.2.2.2)]), (1, cel b4 106 [.int .u8 t847.1, .int .i64 t847.2.1, .int .i64 t847.2.2.1, .int .i64 t847.2.2.2.1])] w ∧ Has [] 58 a [(1, .pointer (some q1)), (2, .pointer (some (⟨b4, 0, none⟩)))]) ?_ ?_
   ·refine cb rfl (fun hc848 => ?_) (fun hc848 => ?_)
    ·have hr849 := if_p hc848 hx845
     refine sq (rg (m1 rfl (sto 2 (cs := [.string (bs r6.1)]) Z9 rfl rfl rfl rfl rfl rfl rfl (on (rg (m1 rfl ?_))))))
     obtain ⟨t878, hx879, hr880⟩ := bd_some hr849
     refine clIT C85 Tryz.func85 rfl Tryz.ntmps85 rfl rfl rfl rfl (fun v w => (∃ (t881 : Int × Bytes), t878 = (.inl t881) ∧ v = .int .i64 t881.1 ∧ St M W H [K2, H] [(2, cel b5 9 [.string (bs t881.2)]), (1, cel b4 106 [.int .u8 0, .int .i64 0, .int .i64 0, .int .i64 0])] w)) _ (fun _ _ _ hA h => ⟨hA.defers, h⟩) ?_ ?_
     ·refine sq (rg (a1 rfl (on (sq (rg (ld G9 rfl rfl (sO 2 rfl) rfl (a1 rfl (on (sq (sq (rg ?_)))))))))))
      refine m1 rfl (neS rfl rfl rfl (on (cT rfl ((by decide : decide (([44, 32, 99, 111, 108, 46, 32] : Bytes) ≠ []) = true)) (sq (rg (ld G9 rfl rfl (sO 2 rfl) rfl (m1 rfl ?_)))))))
      obtain ⟨r882, hx883, hr884⟩ := bd_some hx879
      refine clS C86 rfl rfl rfl rfl (fun w H hH le => w86 hH (hg.mono (le.at 1 rfl)) r6.1 [44, 32, 99, 111, 108, 46, 32] hx883) (m1 rfl (ex rfl rfl rfl (ex rfl rfl rfl (ex rfl rfl rfl (a1 rfl (a1 rfl (a1 rfl (on (sq (sq (rg ?_)))))))))))
      refine m1 rfl (nt rfl rfl (on ?_))
      refine cb rfl (fun hc888 => ?_) (fun hc888 => ?_)
      ·replace hc888 := nbt hc888
       have hr889 := if_f hc888 hr884
       refine rg (ld G9 rfl rfl (sS 0 rfl hK3) rfl (bu (cs := [.string (bs cite)]) T10.B153 rfl rfl rfl (fi U153 rfl rfl rfl (pnc rfl ?_))))
       cases hr889
       cases hr880
       cases hr846
       cases hr508
       intro a w hS hA
       exact ⟨hA.defers, rtT_pan hS.ext⟩
      ·replace hc888 := nbf hc888
       have hr890 := if_p hc888 hr884
       refine sk (rg (m1 rfl (m1 rfl (a1 rfl (sto 2 (cs := [.string (bs r882.2.1)]) Z9 rfl rfl rfl rfl rfl rfl rfl (on (sq (rg (m1 rfl ?_)))))))))
       obtain ⟨r891, hx892, hr893⟩ := bd_some hr890
       refine clK C87 rfl rfl rfl rfl (fun w H hH le => w87 hH (hg.mono (le.at 1 rfl)) r882.1 hx892) ?_
       rintro v_ K894 ⟨er895, rfl, he896⟩
       refine m1 rfl (ex rfl rfl rfl (ex rfl rfl rfl (a1 rfl (a1 rfl (on (sq (sq ?_)))))))
       obtain ⟨t909, hx910, hr911⟩ := bd_some hr893
       refine jn (fun a w => St M W H [K894, K2, H] [(2, cel b5 9 [.string (bs r882.2.1)]), (1, cel b4 106 [.int .u8 0, .int .i64 0, .int .i64 0, .int .i64 0])] w ∧ Has [] 50 a [(2, .pointer (some q1)), (9, .int .i64 r891.1), (45, .bool t909)]) ?_ ?_
       ·refine rg (m1 rfl (neE U146 rfl rfl he896 (m1 rfl ?_)))
        rcases Bool.eq_false_or_eq_true (r891.2) with hb912 | hb912
        ·have hr913 := if_p hb912 hx910
         refine gF rfl rfl (hb912) rfl (gF rfl rfl (hb912) rfl (gF rfl rfl (hb912) rfl (gF rfl rfl (hb912) rfl (pT rfl rfl (hb912) rfl (m1 rfl (gF rfl rfl rfl rfl (gF rfl rfl rfl rfl (gF rfl rfl rfl rfl (pT rfl rfl rfl rfl (on ?_))))))))))
         cases hr913
         exact cu ⟨rfl, rfl, rfl, tv⟩
        ·have hr914 := if_f hb912 hx910
         refine gN rfl rfl (hb912) (m1 rfl (gN rfl rfl (hb912) ?_))
         obtain ⟨r915, hx916, hr917⟩ := bd_some hr914
         refine clS C58 rfl rfl rfl rfl (fun w H hH le => w58 hH (hg.mono (le.at 2 rfl)) r891.1 hx916) (gN rfl rfl (hb912) (m1 rfl (gN rfl rfl (hb912) (neS rfl rfl rfl (pF rfl rfl (hb912) rfl (m1 rfl ?_))))))
         by_cases hb918 : r915 ≠ r882.1
         ·have hr919 := if_p hb918 hr917
          refine gf' hb918 rfl (gf' hb918 rfl (gf' hb918 rfl (pt hb918 rfl rfl (on ?_))))
          cases hr919
          exact cu ⟨rfl, rfl, rfl, tv⟩
         ·have hr920 := if_n hb918 hr917
          refine gt' hb918 rfl (m1 rfl (gt' hb918 rfl ?_))
          obtain ⟨r921, hx922, hr923⟩ := bd_some hr920
          refine clS C40 rfl rfl rfl rfl (fun w H hH le => w40 r891.1 0 999999 hx922) (gt' hb918 rfl (nt rfl rfl (pf hb918 rfl rfl (on ?_))))
          cases hr923
          exact cu ⟨rfl, rfl, rfl, tv⟩
       ·rintro a w ⟨hS, hA⟩
        refine TG.ap ?_ hS hA
        refine cb rfl (fun hc927 => ?_) (fun hc927 => ?_)
        ·have hr928 := if_p hc927 hr911
         refine rg (ld G9 rfl rfl (sS 1 rfl hK3) rfl (bu (cs := [.string (bs cite)]) T10.B153 rfl rfl rfl (fi U153 rfl rfl rfl (pnc rfl ?_))))
         cases hr928
         cases hr880
         cases hr846
         cases hr508
         intro a w hS hA
         exact ⟨hA.defers, rtT_pan hS.ext⟩
        ·have hr929 := if_f hc927 hr911
         refine sk (sq (rg (m1 rfl (a1 rfl (on (rt_ ?_))))))
         cases hr929
         intro a w hS hA
         refine ret1 hA rfl rfl ?_
         exact ⟨_, rfl, ⟨_, rfl, rfl, hS.selH [1, 2] rfl⟩⟩
     ·rintro a w v hA (⟨t881, rfl, rfl, hS⟩)
      refine putK rfl hA hS (m1 rfl ?_)
      obtain ⟨t958, hx959, hr960⟩ := bd_some hr880
      refine clIT C85 Tryz.func85 rfl Tryz.ntmps85 rfl rfl rfl rfl (fun v w => (∃ (t961 : Int × Bytes), t958 = (.inl t961) ∧ v = .int .i64 t961.1 ∧ St M W H [K2, H] [(2, cel b5 9 [.string (bs t961.2)]), (1, cel b4 106 [.int .u8 0, .int .i64 0, .int .i64 0, .int .i64 0])] w)) _ (fun _ _ _ hA h => ⟨hA.defers, h⟩) ?_ ?_
      ·refine sq (rg (a1 rfl (on (sq (rg (ld G9 rfl rfl (sO 2 rfl) rfl (a1 rfl (on (sq (sq (rg ?_)))))))))))
       refine m1 rfl (neS rfl rfl rfl (on (cT rfl ((by decide : decide (([44, 32, 108, 46, 32] : Bytes) ≠ []) = true)) (sq (rg (ld G9 rfl rfl (sO 2 rfl) rfl (m1 rfl ?_)))))))
       obtain ⟨r962, hx963, hr964⟩ := bd_some hx959
       refine clS C86 rfl rfl rfl rfl (fun w H hH le => w86 hH (hg.mono (le.at 1 rfl)) t881.2 [44, 32, 108, 46, 32] hx963) (m1 rfl (ex rfl rfl rfl (ex rfl rfl rfl (ex rfl rfl rfl (a1 rfl (a1 rfl (a1 rfl (on (sq (sq (rg ?_)))))))))))
       refine m1 rfl (nt rfl rfl (on ?_))
       refine cb rfl (fun hc968 => ?_) (fun hc968 => ?_)
       ·replace hc968 := nbt hc968
        have hr969 := if_f hc968 hr964
        refine rg (ld G9 rfl rfl (sS 0 rfl hK3) rfl (bu (cs := [.string (bs cite)]) T10.B153 rfl rfl rfl (fi U153 rfl rfl rfl (pnc rfl ?_))))
        cases hr969
        cases hr960
        cases hr846
        cases hr508
        intro a w hS hA
        exact ⟨hA.defers, rtT_pan hS.ext⟩
       ·replace hc968 := nbf hc968
        have hr970 := if_p hc968 hr964
        refine sk (rg (m1 rfl (m1 rfl (a1 rfl (sto 2 (cs := [.string (bs r962.2.1)]) Z9 rfl rfl rfl rfl rfl rfl rfl (on (sq (rg (m1 rfl ?_)))))))))
        obtain ⟨r971, hx972, hr973⟩ := bd_some hr970
        refine clK C87 rfl rfl rfl rfl (fun w H hH le => w87 hH (hg.mono (le.at 1 rfl)) r962.1 hx972) ?_
        rintro v_ K974 ⟨er975, rfl, he976⟩
        refine m1 rfl (ex rfl rfl rfl (ex rfl rfl rfl (a1 rfl (a1 rfl (on (sq (sq ?_)))))))
        obtain ⟨t989, hx990, hr991⟩ := bd_some hr973
        refine jn (fun a w => St M W H [K974, K2, H] [(2, cel b5 9 [.string (bs r962.2.1)]), (1, cel b4 106 [.int .u8 0, .int .i64 0, .int .i64 0, .int .i64 0])] w ∧ Has [] 50 a [(2, .pointer (some q1)), (9, .int .i64 r971.1), (45, .bool t989)]) ?_ ?_
        ·refine rg (m1 rfl (neE U146 rfl rfl he976 (m1 rfl ?_)))
         rcases Bool.eq_false_or_eq_true (r971.2) with hb992 | hb992
         ·have hr993 := if_p hb992 hx990
          refine gF rfl rfl (hb992) rfl (gF rfl rfl (hb992) rfl (gF rfl rfl (hb992) rfl (gF rfl rfl (hb992) rfl (pT rfl rfl (hb992) rfl (m1 rfl (gF rfl rfl rfl rfl (gF rfl rfl rfl rfl (gF rfl rfl rfl rfl (pT rfl rfl rfl rfl (on ?_))))))))))
          cases hr993
          exact cu ⟨rfl, rfl, rfl, tv⟩
         ·have hr994 := if_f hb992 hx990
          refine gN rfl rfl (hb992) (m1 rfl (gN rfl rfl (hb992) ?_))
          obtain ⟨r995, hx996, hr997⟩ := bd_some hr994
          refine clS C58 rfl rfl rfl rfl (fun w H hH le => w58 hH (hg.mono (le.at 2 rfl)) r971.1 hx996) (gN rfl rfl (hb992) (m1 rfl (gN rfl rfl (hb992) (neS rfl rfl rfl (pF rfl rfl (hb992) rfl (m1 rfl ?_))))))
          by_cases hb998 : r995 ≠ r962.1
          ·have hr999 := if_p hb998 hr997
           refine gf' hb998 rfl (gf' hb998 rfl (gf' hb998 rfl (pt hb998 rfl rfl (on ?_))))
           cases hr999
           exact cu ⟨rfl, rfl, rfl, tv⟩
          ·have hr1000 := if_n hb998 hr997
           refine gt' hb998 rfl (m1 rfl (gt' hb998 rfl ?_))
           obtain ⟨r1001, hx1002, hr1003⟩ := bd_some hr1000
           refine clS C40 rfl rfl rfl rfl (fun w H hH le => w40 r971.1 0 999999 hx1002) (gt' hb998 rfl (nt rfl rfl (pf hb998 rfl rfl (on ?_))))
           cases hr1003
           exact cu ⟨rfl, rfl, rfl, tv⟩
        ·rintro a w ⟨hS, hA⟩
         refine TG.ap ?_ hS hA
         refine cb rfl (fun hc1007 => ?_) (fun hc1007 => ?_)
         ·have hr1008 := if_p hc1007 hr991
          refine rg (ld G9 rfl rfl (sS 1 rfl hK3) rfl (bu (cs := [.string (bs cite)]) T10.B153 rfl rfl rfl (fi U153 rfl rfl rfl (pnc rfl ?_))))
          cases hr1008
          cases hr960
          cases hr846
          cases hr508
          intro a w hS hA
          exact ⟨hA.defers, rtT_pan hS.ext⟩
         ·have hr1009 := if_f hc1007 hr991
          refine sk (sq (rg (m1 rfl (a1 rfl (on (rt_ ?_))))))
          cases hr1009
          intro a w hS hA
          refine ret1 hA rfl rfl ?_
          exact ⟨_, rfl, ⟨_, rfl, rfl, hS.selH [1, 2] rfl⟩⟩
      ·rintro a w v hA (⟨t961, rfl, rfl, hS⟩)
       refine putK rfl hA hS (m1 rfl ?_)
       obtain ⟨t1032, hx1033, hr1034⟩ := bd_some hr960
       refine clIT C85 Tryz.func85 rfl Tryz.ntmps85 rfl rfl rfl rfl (fun v w => (∃ (t1035 : Int), t1032 = (.inl t1035) ∧ v = .int .i64 t1035 ∧ St M W H [K2, H] [(2, cel b5 9 [.string (bs t961.2)]), (1, cel b4 106 [.int .u8 0, .int .i64 0, .int .i64 0, .int .i64 0])] w)) _ (fun _ _ _ hA h => ⟨hA.defers, h⟩) ?_ ?_
       ·refine sq (rg (a1 rfl (on (sq (rg (ld G9 rfl rfl (sO 2 rfl) rfl (a1 rfl (on (sq (sq (rg ?_)))))))))))
        refine m1 rfl (neS rfl rfl rfl (on (cF rfl ((by decide : decide (([] : Bytes) ≠ []) = false)) (sk (sq (rg (m1 rfl ?_)))))))
        obtain ⟨r1036, hx1037, hr1038⟩ := bd_some hx1033
        refine clK C87 rfl rfl rfl rfl (fun w H hH le => w87 hH (hg.mono (le.at 1 rfl)) t961.2 hx1037) ?_
        rintro v_ K1039 ⟨er1040, rfl, he1041⟩
        refine m1 rfl (ex rfl rfl rfl (ex rfl rfl rfl (a1 rfl (a1 rfl (on (sq (sq ?_)))))))
        obtain ⟨t1054, hx1055, hr1056⟩ := bd_some hr1038
        refine jn (fun a w => St M W H [K1039, K2, H] [(2, cel b5 9 [.string (bs t961.2)]), (1, cel b4 106 [.int .u8 0, .int .i64 0, .int .i64 0, .int .i64 0])] w ∧ Has [] 50 a [(2, .pointer (some q1)), (9, .int .i64 r1036.1), (45, .bool t1054)]) ?_ ?_
        ·refine rg (m1 rfl (neE U146 rfl rfl he1041 (m1 rfl ?_)))
         rcases Bool.eq_false_or_eq_true (r1036.2) with hb1057 | hb1057
         ·have hr1058 := if_p hb1057 hx1055
          refine gF rfl rfl (hb1057) rfl (gF rfl rfl (hb1057) rfl (gF rfl rfl (hb1057) rfl (gF rfl rfl (hb1057) rfl (pT rfl rfl (hb1057) rfl (m1 rfl (gF rfl rfl rfl rfl (gF rfl rfl rfl rfl (gF rfl rfl rfl rfl (pT rfl rfl rfl rfl (on ?_))))))))))
          cases hr1058
          exact cu ⟨rfl, rfl, rfl, tv⟩
         ·have hr1059 := if_f hb1057 hx1055
          refine gN rfl rfl (hb1057) (m1 rfl (gN rfl rfl (hb1057) ?_))
          obtain ⟨r1060, hx1061, hr1062⟩ := bd_some hr1059
          refine clS C58 rfl rfl rfl rfl (fun w H hH le => w58 hH (hg.mono (le.at 2 rfl)) r1036.1 hx1061) (gN rfl rfl (hb1057) (m1 rfl (gN rfl rfl (hb1057) (neS rfl rfl rfl (pF rfl rfl (hb1057) rfl (m1 rfl ?_))))))
          by_cases hb1063 : r1060 ≠ t961.2
          ·have hr1064 := if_p hb1063 hr1062
           refine gf' hb1063 rfl (gf' hb1063 rfl (gf' hb1063 rfl (pt hb1063 rfl rfl (on ?_))))
           cases hr1064
           exact cu ⟨rfl, rfl, rfl, tv⟩
          ·have hr1065 := if_n hb1063 hr1062
           refine gt' hb1063 rfl (m1 rfl (gt' hb1063 rfl ?_))
           obtain ⟨r1066, hx1067, hr1068⟩ := bd_some hr1065
           refine clS C40 rfl rfl rfl rfl (fun w H hH le => w40 r1036.1 0 999999 hx1067) (gt' hb1063 rfl (nt rfl rfl (pf hb1063 rfl rfl (on ?_))))
           cases hr1068
           exact cu ⟨rfl, rfl, rfl, tv⟩
        ·rintro a w ⟨hS, hA⟩
         refine TG.ap ?_ hS hA
         refine cb rfl (fun hc1072 => ?_) (fun hc1072 => ?_)
         ·have hr1073 := if_p hc1072 hr1056
          refine rg (ld G9 rfl rfl (sS 1 rfl hK3) rfl (bu (cs := [.string (bs cite)]) T10.B153 rfl rfl rfl (fi U153 rfl rfl rfl (pnc rfl ?_))))
          cases hr1073
          cases hr1034
          cases hr846
          cases hr508
          intro a w hS hA
          exact ⟨hA.defers, rtT_pan hS.ext⟩
         ·have hr1074 := if_f hc1072 hr1056
          refine sk (sq (rg (m1 rfl (a1 rfl (on (rt_ ?_))))))
          cases hr1074
          intro a w hS hA
          refine ret1 hA rfl rfl ?_
          exact ⟨_, rfl, ⟨_, rfl, rfl, hS.selH [1, 2] rfl⟩⟩
       ·rintro a w v hA (⟨t1035, rfl, rfl, hS⟩)
        refine putK rfl hA hS (buA (cs := [.int .i64 t881.1, .int .i64 t961.1, .int .i64 t1035]) T10.B69 rfl rfl rfl (bu (cs := [.int .u8 0, .int .i64 t881.1, .int .i64 t961.1, .int .i64 t1035]) T10.B106 rfl rfl rfl (sto 1 (cs := [.int .u8 0, .int .i64 t881.1, .int .i64 t961.1, .int .i64 t1035]) Z106 rfl rfl rfl rfl rfl rfl rfl (on ?_))))
        cases hr1034
        intro a w hS hA
        exact ⟨_, rfl, hS, hA.cut ⟨rfl, rfl, tv⟩⟩
    ·have hr1075 := if_f hc848 hx845
     refine sq (rg (m1 rfl (sto 2 (cs := [.string (bs r6.1)]) Z9 rfl rfl rfl rfl rfl rfl rfl (on (rg (m1 rfl ?_))))))
     obtain ⟨t1104, hx1105, hr1106⟩ := bd_some hr1075
     refine clIT C85 Tryz.func85 rfl Tryz.ntmps85 rfl rfl rfl rfl (fun v w => (∃ (t1107 : Int × Bytes), t1104 = (.inl t1107) ∧ v = .int .i64 t1107.1 ∧ St M W H [K2, H] [(2, cel b5 9 [.string (bs t1107.2)]), (1, cel b4 106 [.int .u8 0, .int .i64 0, .int .i64 0, .int .i64 0])] w)) _ (fun _ _ _ hA h => ⟨hA.defers, h⟩) ?_ ?_
     ·refine sq (rg (a1 rfl (on (sq (rg (ld G9 rfl rfl (sO 2 rfl) rfl (a1 rfl (on (sq (sq (rg ?_)))))))))))
      refine m1 rfl (neS rfl rfl rfl (on (cT rfl ((by decide : decide (([44, 32] : Bytes) ≠ []) = true)) (sq (rg (ld G9 rfl rfl (sO 2 rfl) rfl (m1 rfl ?_)))))))
      obtain ⟨r1108, hx1109, hr1110⟩ := bd_some hx1105
      refine clS C86 rfl rfl rfl rfl (fun w H hH le => w86 hH (hg.mono (le.at 1 rfl)) r6.1 [44, 32] hx1109) (m1 rfl (ex rfl rfl rfl (ex rfl rfl rfl (ex rfl rfl rfl (a1 rfl (a1 rfl (a1 rfl (on (sq (sq (rg ?_)))))))))))
      refine m1 rfl (nt rfl rfl (on ?_))
      refine cb rfl (fun hc1114 => ?_) (fun hc1114 => ?_)
      ·replace hc1114 := nbt hc1114
       have hr1115 := if_f hc1114 hr1110
       refine rg (ld G9 rfl rfl (sS 0 rfl hK3) rfl (bu (cs := [.string (bs cite)]) T10.B153 rfl rfl rfl (fi U153 rfl rfl rfl (pnc rfl ?_))))
       cases hr1115
       cases hr1106
       cases hr846
       cases hr508
       intro a w hS hA
       exact ⟨hA.defers, rtT_pan hS.ext⟩
      ·replace hc1114 := nbf hc1114
       have hr1116 := if_p hc1114 hr1110
       refine sk (rg (m1 rfl (m1 rfl (a1 rfl (sto 2 (cs := [.string (bs r1108.2.1)]) Z9 rfl rfl rfl rfl rfl rfl rfl (on (sq (rg (m1 rfl ?_)))))))))
       obtain ⟨r1117, hx1118, hr1119⟩ := bd_some hr1116
       refine clK C87 rfl rfl rfl rfl (fun w H hH le => w87 hH (hg.mono (le.at 1 rfl)) r1108.1 hx1118) ?_
       rintro v_ K1120 ⟨er1121, rfl, he1122⟩
       refine m1 rfl (ex rfl rfl rfl (ex rfl rfl rfl (a1 rfl (a1 rfl (on (sq (sq ?_)))))))
       obtain ⟨t1135, hx1136, hr1137⟩ := bd_some hr1119
       refine jn (fun a w => St M W H [K1120, K2, H] [(2, cel b5 9 [.string (bs r1108.2.1)]), (1, cel b4 106 [.int .u8 0, .int .i64 0, .int .i64 0, .int .i64 0])] w ∧ Has [] 50 a [(2, .pointer (some q1)), (9, .int .i64 r1117.1), (45, .bool t1135)]) ?_ ?_
       ·refine rg (m1 rfl (neE U146 rfl rfl he1122 (m1 rfl ?_)))
        rcases Bool.eq_false_or_eq_true (r1117.2) with hb1138 | hb1138
        ·have hr1139 := if_p hb1138 hx1136
         refine gF rfl rfl (hb1138) rfl (gF rfl rfl (hb1138) rfl (gF rfl rfl (hb1138) rfl (gF rfl rfl (hb1138) rfl (pT rfl rfl (hb1138) rfl (m1 rfl (gF rfl rfl rfl rfl (gF rfl rfl rfl rfl (gF rfl rfl rfl rfl (pT rfl rfl rfl rfl (on ?_))))))))))
         cases hr1139
         exact cu ⟨rfl, rfl, rfl, tv⟩
        ·have hr1140 := if_f hb1138 hx1136
         refine gN rfl rfl (hb1138) (m1 rfl (gN rfl rfl (hb1138) ?_))
         obtain ⟨r1141, hx1142, hr1143⟩ := bd_some hr1140
         refine clS C58 rfl rfl rfl rfl (fun w H hH le => w58 hH (hg.mono (le.at 2 rfl)) r1117.1 hx1142) (gN rfl rfl (hb1138) (m1 rfl (gN rfl rfl (hb1138) (neS rfl rfl rfl (pF rfl rfl (hb1138) rfl (m1 rfl ?_))))))
         by_cases hb1144 : r1141 ≠ r1108.1
         ·have hr1145 := if_p hb1144 hr1143
          refine gf' hb1144 rfl (gf' hb1144 rfl (gf' hb1144 rfl (pt hb1144 rfl rfl (on ?_))))
          cases hr1145
          exact cu ⟨rfl, rfl, rfl, tv⟩
         ·have hr1146 := if_n hb1144 hr1143
          refine gt' hb1144 rfl (m1 rfl (gt' hb1144 rfl ?_))
          obtain ⟨r1147, hx1148, hr1149⟩ := bd_some hr1146
          refine clS C40 rfl rfl rfl rfl (fun w H hH le => w40 r1117.1 0 999999 hx1148) (gt' hb1144 rfl (nt rfl rfl (pf hb1144 rfl rfl (on ?_))))
          cases hr1149
          exact cu ⟨rfl, rfl, rfl, tv⟩
       ·rintro a w ⟨hS, hA⟩
        refine TG.ap ?_ hS hA
        refine cb rfl (fun hc1153 => ?_) (fun hc1153 => ?_)
        ·have hr1154 := if_p hc1153 hr1137
         refine rg (ld G9 rfl rfl (sS 1 rfl hK3) rfl (bu (cs := [.string (bs cite)]) T10.B153 rfl rfl rfl (fi U153 rfl rfl rfl (pnc rfl ?_))))
         cases hr1154
         cases hr1106
         cases hr846
         cases hr508
         intro a w hS hA
         exact ⟨hA.defers, rtT_pan hS.ext⟩
        ·have hr1155 := if_f hc1153 hr1137
         refine sk (sq (rg (m1 rfl (a1 rfl (on (rt_ ?_))))))
         cases hr1155
         intro a w hS hA
         refine ret1 hA rfl rfl ?_
         exact ⟨_, rfl, ⟨_, rfl, rfl, hS.selH [1, 2] rfl⟩⟩
     ·rintro a w v hA (⟨t1107, rfl, rfl, hS⟩)
      refine putK rfl hA hS (m1 rfl ?_)
      obtain ⟨t1184, hx1185, hr1186⟩ := bd_some hr1106
      refine clIT C85 Tryz.func85 rfl Tryz.ntmps85 rfl rfl rfl rfl (fun v w => (∃ (t1187 : Int × Bytes), t1184 = (.inl t1187) ∧ v = .int .i64 t1187.1 ∧ St M W H [K2, H] [(2, cel b5 9 [.string (bs t1187.2)]), (1, cel b4 106 [.int .u8 0, .int .i64 0, .int .i64 0, .int .i64 0])] w)) _ (fun _ _ _ hA h => ⟨hA.defers, h⟩) ?_ ?_
      ·refine sq (rg (a1 rfl (on (sq (rg (ld G9 rfl rfl (sO 2 rfl) rfl (a1 rfl (on (sq (sq (rg ?_)))))))))))
       refine m1 rfl (neS rfl rfl rfl (on (cT rfl ((by decide : decide (([44, 32, 112, 97, 114, 46, 32] : Bytes) ≠ []) = true)) (sq (rg (ld G9 rfl rfl (sO 2 rfl) rfl (m1 rfl ?_)))))))
       obtain ⟨r1188, hx1189, hr1190⟩ := bd_some hx1185
       refine clS C86 rfl rfl rfl rfl (fun w H hH le => w86 hH (hg.mono (le.at 1 rfl)) t1107.2 [44, 32, 112, 97, 114, 46, 32] hx1189) (m1 rfl (ex rfl rfl rfl (ex rfl rfl rfl (ex rfl rfl rfl (a1 rfl (a1 rfl (a1 rfl (on (sq (sq (rg ?_)))))))))))
       refine m1 rfl (nt rfl rfl (on ?_))
       refine cb rfl (fun hc1194 => ?_) (fun hc1194 => ?_)
       ·replace hc1194 := nbt hc1194
        have hr1195 := if_f hc1194 hr1190
        refine rg (ld G9 rfl rfl (sS 0 rfl hK3) rfl (bu (cs := [.string (bs cite)]) T10.B153 rfl rfl rfl (fi U153 rfl rfl rfl (pnc rfl ?_))))
        cases hr1195
        cases hr1186
        cases hr846
        cases hr508
        intro a w hS hA
        exact ⟨hA.defers, rtT_pan hS.ext⟩
       ·replace hc1194 := nbf hc1194
        have hr1196 := if_p hc1194 hr1190
        refine sk (rg (m1 rfl (m1 rfl (a1 rfl (sto 2 (cs := [.string (bs r1188.2.1)]) Z9 rfl rfl rfl rfl rfl rfl rfl (on (sq (rg (m1 rfl ?_)))))))))
        obtain ⟨r1197, hx1198, hr1199⟩ := bd_some hr1196
        refine clK C87 rfl rfl rfl rfl (fun w H hH le => w87 hH (hg.mono (le.at 1 rfl)) r1188.1 hx1198) ?_
        rintro v_ K1200 ⟨er1201, rfl, he1202⟩
        refine m1 rfl (ex rfl rfl rfl (ex rfl rfl rfl (a1 rfl (a1 rfl (on (sq (sq ?_)))))))
        obtain ⟨t1215, hx1216, hr1217⟩ := bd_some hr1199
        refine jn (fun a w => St M W H [K1200, K2, H] [(2, cel b5 9 [.string (bs r1188.2.1)]), (1, cel b4 106 [.int .u8 0, .int .i64 0, .int .i64 0, .int .i64 0])] w ∧ Has [] 50 a [(2, .pointer (some q1)), (9, .int .i64 r1197.1), (45, .bool t1215)]) ?_ ?_
        ·refine rg (m1 rfl (neE U146 rfl rfl he1202 (m1 rfl ?_)))
         rcases Bool.eq_false_or_eq_true (r1197.2) with hb1218 | hb1218
         ·have hr1219 := if_p hb1218 hx1216
          refine gF rfl rfl (hb1218) rfl (gF rfl rfl (hb1218) rfl (gF rfl rfl (hb1218) rfl (gF rfl rfl (hb1218) rfl (pT rfl rfl (hb1218) rfl (m1 rfl (gF rfl rfl rfl rfl (gF rfl rfl rfl rfl (gF rfl rfl rfl rfl (pT rfl rfl rfl rfl (on ?_))))))))))
          cases hr1219
          exact cu ⟨rfl, rfl, rfl, tv⟩
         ·have hr1220 := if_f hb1218 hx1216
          refine gN rfl rfl (hb1218) (m1 rfl (gN rfl rfl (hb1218) ?_))
          obtain ⟨r1221, hx1222, hr1223⟩ := bd_some hr1220
          refine clS C58 rfl rfl rfl rfl (fun w H hH le => w58 hH (hg.mono (le.at 2 rfl)) r1197.1 hx1222) (gN rfl rfl (hb1218) (m1 rfl (gN rfl rfl (hb1218) (neS rfl rfl rfl (pF rfl rfl (hb1218) rfl (m1 rfl ?_))))))
          by_cases hb1224 : r1221 ≠ r1188.1
          ·have hr1225 := if_p hb1224 hr1223
           refine gf' hb1224 rfl (gf' hb1224 rfl (gf' hb1224 rfl (pt hb1224 rfl rfl (on ?_))))
           cases hr1225
           exact cu ⟨rfl, rfl, rfl, tv⟩
          ·have hr1226 := if_n hb1224 hr1223
           refine gt' hb1224 rfl (m1 rfl (gt' hb1224 rfl ?_))
           obtain ⟨r1227, hx1228, hr1229⟩ := bd_some hr1226
           refine clS C40 rfl rfl rfl rfl (fun w H hH le => w40 r1197.1 0 999999 hx1228) (gt' hb1224 rfl (nt rfl rfl (pf hb1224 rfl rfl (on ?_))))
           cases hr1229
           exact cu ⟨rfl, rfl, rfl, tv⟩
        ·rintro a w ⟨hS, hA⟩
         refine TG.ap ?_ hS hA
         refine cb rfl (fun hc1233 => ?_) (fun hc1233 => ?_)
         ·have hr1234 := if_p hc1233 hr1217
          refine rg (ld G9 rfl rfl (sS 1 rfl hK3) rfl (bu (cs := [.string (bs cite)]) T10.B153 rfl rfl rfl (fi U153 rfl rfl rfl (pnc rfl ?_))))
          cases hr1234
          cases hr1186
          cases hr846
          cases hr508
          intro a w hS hA
          exact ⟨hA.defers, rtT_pan hS.ext⟩
         ·have hr1235 := if_f hc1233 hr1217
          refine sk (sq (rg (m1 rfl (a1 rfl (on (rt_ ?_))))))
          cases hr1235
          intro a w hS hA
          refine ret1 hA rfl rfl ?_
          exact ⟨_, rfl, ⟨_, rfl, rfl, hS.selH [1, 2] rfl⟩⟩
      ·rintro a w v hA (⟨t1187, rfl, rfl, hS⟩)
       refine putK rfl hA hS (m1 rfl ?_)
       obtain ⟨t1258, hx1259, hr1260⟩ := bd_some hr1186
       refine clIT C85 Tryz.func85 rfl Tryz.ntmps85 rfl rfl rfl rfl (fun v w => (∃ (t1261 : Int), t1258 = (.inl t1261) ∧ v = .int .i64 t1261 ∧ St M W H [K2, H] [(2, cel b5 9 [.string (bs t1187.2)]), (1, cel b4 106 [.int .u8 0, .int .i64 0, .int .i64 0, .int .i64 0])] w)) _ (fun _ _ _ hA h => ⟨hA.defers, h⟩) ?_ ?_
       ·refine sq (rg (a1 rfl (on (sq (rg (ld G9 rfl rfl (sO 2 rfl) rfl (a1 rfl (on (sq (sq (rg ?_)))))))))))
        refine m1 rfl (neS rfl rfl rfl (on (cF rfl ((by decide : decide (([] : Bytes) ≠ []) = false)) (sk (sq (rg (m1 rfl ?_)))))))
        obtain ⟨r1262, hx1263, hr1264⟩ := bd_some hx1259
        refine clK C87 rfl rfl rfl rfl (fun w H hH le => w87 hH (hg.mono (le.at 1 rfl)) t1187.2 hx1263) ?_
        rintro v_ K1265 ⟨er1266, rfl, he1267⟩
        refine m1 rfl (ex rfl rfl rfl (ex rfl rfl rfl (a1 rfl (a1 rfl (on (sq (sq ?_)))))))
        obtain ⟨t1280, hx1281, hr1282⟩ := bd_some hr1264
        refine jn (fun a w => St M W H [K1265, K2, H] [(2, cel b5 9 [.string (bs t1187.2)]), (1, cel b4 106 [.int .u8 0, .int .i64 0, .int .i64 0, .int .i64 0])] w ∧ Has [] 50 a [(2, .pointer (some q1)), (9, .int .i64 r1262.1), (45, .bool t1280)]) ?_ ?_
        ·refine rg (m1 rfl (neE U146 rfl rfl he1267 (m1 rfl ?_)))
         rcases Bool.eq_false_or_eq_true (r1262.2) with hb1283 | hb1283
         ·have hr1284 := if_p hb1283 hx1281
          refine gF rfl rfl (hb1283) rfl (gF rfl rfl (hb1283) rfl (gF rfl rfl (hb1283) rfl (gF rfl rfl (hb1283) rfl (pT rfl rfl (hb1283) rfl (m1 rfl (gF rfl rfl rfl rfl (gF rfl rfl rfl rfl (gF rfl rfl rfl rfl (pT rfl rfl rfl rfl (on ?_))))))))))
          cases hr1284
          exact cu ⟨rfl, rfl, rfl, tv⟩
         ·have hr1285 := if_f hb1283 hx1281
          refine gN rfl rfl (hb1283) (m1 rfl (gN rfl rfl (hb1283) ?_))
          obtain ⟨r1286, hx1287, hr1288⟩ := bd_some hr1285
          refine clS C58 rfl rfl rfl rfl (fun w H hH le => w58 hH (hg.mono (le.at 2 rfl)) r1262.1 hx1287) (gN rfl rfl (hb1283) (m1 rfl (gN rfl rfl (hb1283) (neS rfl rfl rfl (pF rfl rfl (hb1283) rfl (m1 rfl ?_))))))
          by_cases hb1289 : r1286 ≠ t1187.2
          ·have hr1290 := if_p hb1289 hr1288
           refine gf' hb1289 rfl (gf' hb1289 rfl (gf' hb1289 rfl (pt hb1289 rfl rfl (on ?_))))
           cases hr1290
           exact cu ⟨rfl, rfl, rfl, tv⟩
          ·have hr1291 := if_n hb1289 hr1288
           refine gt' hb1289 rfl (m1 rfl (gt' hb1289 rfl ?_))
           obtain ⟨r1292, hx1293, hr1294⟩ := bd_some hr1291
           refine clS C40 rfl rfl rfl rfl (fun w H hH le => w40 r1262.1 0 999999 hx1293) (gt' hb1289 rfl (nt rfl rfl (pf hb1289 rfl rfl (on ?_))))
           cases hr1294
           exact cu ⟨rfl, rfl, rfl, tv⟩
        ·rintro a w ⟨hS, hA⟩
         refine TG.ap ?_ hS hA
         refine cb rfl (fun hc1298 => ?_) (fun hc1298 => ?_)
         ·have hr1299 := if_p hc1298 hr1282
          refine rg (ld G9 rfl rfl (sS 1 rfl hK3) rfl (bu (cs := [.string (bs cite)]) T10.B153 rfl rfl rfl (fi U153 rfl rfl rfl (pnc rfl ?_))))
          cases hr1299
          cases hr1260
          cases hr846
          cases hr508
          intro a w hS hA
          exact ⟨hA.defers, rtT_pan hS.ext⟩
         ·have hr1300 := if_f hc1298 hr1282
          refine sk (sq (rg (m1 rfl (a1 rfl (on (rt_ ?_))))))
          cases hr1300
          intro a w hS hA
          refine ret1 hA rfl rfl ?_
          exact ⟨_, rfl, ⟨_, rfl, rfl, hS.selH [1, 2] rfl⟩⟩
       ·rintro a w v hA (⟨t1261, rfl, rfl, hS⟩)
        refine putK rfl hA hS (buA (cs := [.int .i64 t1107.1, .int .i64 t1187.1, .int .i64 t1261]) T10.B69 rfl rfl rfl (bu (cs := [.int .u8 1, .int .i64 t1107.1, .int .i64 t1187.1, .int .i64 t1261]) T10.B106 rfl rfl rfl (sto 1 (cs := [.int .u8 1, .int .i64 t1107.1, .int .i64 t1187.1, .int .i64 t1261]) Z106 rfl rfl rfl rfl rfl rfl rfl (on ?_))))
        cases hr1260
        intro a w hS hA
        exact ⟨_, rfl, hS, hA.cut ⟨rfl, rfl, tv⟩⟩
   ·rintro a w ⟨t847, rfl, hS, hA⟩
    cases hr846
    exact ⟨_, rfl, hS, hA.cut ⟨rfl, rfl, tv⟩⟩
 ·rintro a w ⟨t509, rfl, hS, hA⟩
  refine TG.ap ?_ hS hA
  refine sq (sq ?_)
  obtain ⟨t1307, hx1308, hr1309⟩ := bd_some hr508
  refine jn (fun a w => St M W H [K2, H] [(2, cel b5 9 [.string (bs t509.2.2.2.2)]), (1, cel b4 106 [.int .u8 t509.1, .int .i64 t509.2.1, .int .i64 t509.2.2.1, .int .i64 t509.2.2.2.1])] w ∧ Has [] 58 a [(1, .pointer (some q1)), (2, .pointer (some (⟨b4, 0, none⟩))), (53, .bool t1307)]) ?_ ?_
  ·refine rg (fb 0 U106 rfl rfl rfl rfl Z5 (ld G5 rfl rfl ((sO 1 rfl).take 1) rfl (neI rfl rfl rfl (m1 rfl ?_))))
   by_cases hb1310 : t509.1 ≠ 0
   ·have hr1311 := if_p hb1310 hx1308
    refine gt hb1310 rfl (fb 1 U106 rfl rfl rfl rfl Z69 (gt hb1310 rfl (iaA U69 Z3 rfl rfl rfl (j := 1) rfl (by decide) (gt hb1310 rfl (ld G3 rfl rfl (((sO 1 rfl).drop 2).take 1) rfl (gt hb1310 rfl ?_))))))
    obtain ⟨r1312, hx1313, hr1314⟩ := bd_some hr1311
    refine clS C34 rfl rfl rfl rfl (fun w H hH le => w34 t509.2.2.1 hx1313) (gt hb1310 rfl (nt rfl rfl (pt hb1310 rfl rfl (on ?_))))
    cases hr1314
    exact cu ⟨rfl, rfl, rfl, tv⟩
   ·have hr1315 := if_n hb1310 hx1308
    refine gf hb1310 rfl (gf hb1310 rfl (gf hb1310 rfl (gf hb1310 rfl (gf hb1310 rfl (pf hb1310 rfl rfl (on ?_))))))
    cases hr1315
    exact cu ⟨rfl, rfl, rfl, tv⟩
  ·rintro a w ⟨hS, hA⟩
   refine TG.ap ?_ hS hA
   refine cb rfl (fun hc1319 => ?_) (fun hc1319 => ?_)
   ·have hr1320 := if_p hc1319 hr1309
    refine rg (ld G9 rfl rfl (sS 0 rfl hK3) rfl (bu (cs := [.string (bs cite)]) T10.B153 rfl rfl rfl (fi U153 rfl rfl rfl (pnc rfl ?_))))
    cases hr1320
    intro a w hS hA
    exact ⟨hA.defers, rtT_pan hS.ext⟩
   ·have hr1321 := if_f hc1319 hr1309
    refine sk (sq (rg (ldA G106 Z106 rfl rfl (sO 1 rfl) rfl (sto 1 (cs := [.int .u8 t509.1, .int .i64 t509.2.1, .int .i64 t509.2.2.1, .int .i64 t509.2.2.2.1]) Z106 rfl rfl rfl rfl rfl rfl rfl (on (rt_ ?_))))))
    cases hr1321
    intro a w hS hA
    refine rc1 hA rfl (ResAt.cell rfl (loadsA G106 Z106 (cell_at (hS.get (t := 1) rfl)) rfl)) ?_
    exact rtT_ret rfl hS.ext

theorem w39 {M : Prop} {W : World} {H : Hp} (hH : H.le (hp W)) (hg : Gv M H) (p0_ : Bytes) {r : cited × Bool} (hr : m39 p0_ = some r) : Calls Tryz.prog 39 [.string (bs p0_)].toArray W (RetS M W (.tuple [.agg (enccited r.1).toArray, .bool r.2].toArray)) := by
 obtain ⟨o, h1, rfl⟩ := mp_some hr
 cases o with
 | inl c =>
  refine read39 hH p0_ c fun w K h2 h3 => (w61 h2 (hg.mono h3) p0_ h1).mono fun e w' h => ?_
  obtain ⟨rfl, hE⟩ := h
  exact ⟨rfl, hE⟩
 | inr u => exact readT hH p0_ fun w K h2 h3 => w61 h2 (hg.mono h3) p0_ h1

theorem w21 {M : Prop} {W : World} {H : Hp} (hH : H.le (hp W)) (hg : Gv M H) {cs_v_0 : List Value} (v_0 : Volume) (h_v_0 : (RVolume) H cs_v_0 v_0) {ad_errata : Option Addr} {cap_errata : Nat} {errata : List Erratum} (h_errata : Sl (Flat encErratum) 6 H ad_errata cap_errata errata) (cite : Bytes) {r : Int × Int × Int} (hr : m21 v_0 errata cite = some r) : Calls Tryz.prog 21 [.agg cs_v_0.toArray, .slice ad_errata errata.length cap_errata, .string (bs cite)].toArray W (RetS M W (.tuple [.int .i64 r.1, .int .i64 r.2.1, .int .i64 r.2.2].toArray)) := by
 have hh_v_0 := h_v_0
 obtain ⟨ad1, cap2, rfl, hl3⟩ := h_v_0
 have := hl3.len
 have := h_errata.len
 unfold m21 at hr
 refine enterG (M := M) Tryz.func21 rfl Tryz.ntmps21 rfl hH ?_
 refine sq (rg (bI (cs := [.int .i64 v_0.number, .int .i64 v_0.bound, .int .i64 v_0.height, .int .i64 v_0.width, .slice ad1 v_0.parts.length cap2]) rfl rfl rfl fun q4 K5 hK6 => (a1 rfl (a1 rfl (a1 rfl (on (sq (sq (rg (ldA G37 Z37 rfl rfl (sS 0 rfl hK6) rfl (m1 rfl ?_)))))))))))
 obtain ⟨r7, hx8, hr9⟩ := bd_some hr
 refine clS C33 rfl rfl rfl rfl (fun w H hH le => w33 hH v_0 (RVolume.mono _ _ _ _ (le.at 1 rfl) hh_v_0) (h_errata.mono (Flat.mono _) (le.at 1 rfl)) hx8) (a1 rfl (on (sq (rg (m1 rfl (neI rfl rfl rfl (on ?_)))))))
 refine ci rfl (fun hc13 => ?_) (fun hc13 => ?_)
 ·have hr14 := if_p hc13 hr9
  refine sq (rg (m1 rfl (a1 rfl (a1 rfl (a1 rfl (on (rt_ ?_)))))))
  cases hr14
  intro a w hS hA
  refine ret3 hA rfl rfl rfl rfl ?_
  exact ⟨rfl, hS.ext⟩
 ·have hr15 := if_n hc13 hr9
  refine sk (sq (rg (m1 rfl ?_)))
  obtain ⟨r16, hx17, hr18⟩ := bd_some hr15
  refine clS C39 rfl rfl rfl rfl (fun w H hH le => w39 hH (hg.mono (le.at 1 rfl)) cite hx17) (m1 rfl (ex rfl rfl rfl (ex rfl rfl rfl (va (cs := [.int .u8 r16.1.style, .int .i64 r16.1.numbers.e0, .int .i64 r16.1.numbers.e1, .int .i64 r16.1.numbers.e2]) Tryz.zeroValue106 Z106 rfl rfl rfl rfl rfl rfl rfl rfl fun q19 K20 hK21 => (a1 rfl (on (sq (sq (rg (m1 rfl (nt rfl rfl ?_)))))))))))
  refine on ?_
  refine cb rfl (fun hc25 => ?_) (fun hc25 => ?_)
  ·replace hc25 := nbt hc25
   have hr26 := if_f hc25 hr18
   refine sq (rg (a1 rfl (a1 rfl (a1 rfl (on (rt_ ?_))))))
   cases hr26
   intro a w hS hA
   refine ret3 hA rfl rfl rfl rfl ?_
   exact ⟨rfl, hS.ext⟩
  ·replace hc25 := nbf hc25
   have hr27 := if_p hc25 hr18
   refine sk (sq (rg (fb 1 U106 rfl rfl rfl rfl Z69 (ldA G69 Z69 rfl rfl ((sS 0 rfl hK21).drop 1) rfl (va (cs := [.int .i64 r16.1.numbers.e0, .int .i64 r16.1.numbers.e1, .int .i64 r16.1.numbers.e2]) Tryz.zeroValue69 Z69 rfl rfl rfl rfl rfl rfl rfl rfl fun q28 K29 hK30 => (on (sq (sq (rg (fb 0 U106 rfl rfl rfl rfl Z5 (ld G5 rfl rfl ((sS 1 rfl hK21).take 1) rfl ?_)))))))))))
   refine eqI rfl rfl rfl (on ?_)
   refine ci rfl (fun hc41 => ?_) (fun hc41 => ?_)
   ·have hr42 := if_p hc41 hr27
    refine sq (sq (rg (ldA G37 Z37 rfl rfl (sS 2 rfl hK6) rfl (m1 rfl (iaA U69 Z3 rfl rfl rfl (j := 0) rfl (by decide) (ld G3 rfl rfl ((sS 0 rfl hK30).take 1) rfl (iaA U69 Z3 rfl rfl rfl (j := 1) rfl (by decide) (ld G3 rfl rfl (((sS 0 rfl hK30).drop 1).take 1) rfl ?_))))))))
    obtain ⟨r43, hx44, hr45⟩ := bd_some hr42
    refine clS C23 rfl rfl rfl rfl (fun w H hH le => w23 hH v_0 (RVolume.mono _ _ _ _ (le.at 3 rfl) hh_v_0) (h_errata.mono (Flat.mono _) (le.at 3 rfl)) r16.1.numbers.e0 r16.1.numbers.e1 hx44) (m1 rfl (ex rfl rfl rfl (ex rfl rfl rfl (ex rfl rfl rfl (a1 rfl (a1 rfl (a1 rfl (on (sq (rg (m1 rfl ?_)))))))))))
    refine neI rfl rfl rfl (on ?_)
    refine ci rfl (fun hc49 => ?_) (fun hc49 => ?_)
    ·have hr50 := if_p hc49 hr45
     refine sq (rg (m1 rfl (a1 rfl (a1 rfl (a1 rfl (on (rt_ ?_)))))))
     cases hr50
     intro a w hS hA
     refine ret3 hA rfl rfl rfl rfl ?_
     exact ⟨rfl, hS.ext⟩
    ·have hr51 := if_n hc49 hr45
     refine sk (sq ?_)
     refine TG.cut (L' := [(0, .agg [.int .i64 v_0.number, .int .i64 v_0.bound, .int .i64 v_0.height, .int .i64 v_0.width, .slice ad1 v_0.parts.length cap2].toArray), (1, .slice ad_errata errata.length cap_errata), (2, .string (bs cite)), (3, .pointer (some q4)), (7, .int .i64 0), (8, .int .i64 0), (9, .int .i64 r7), (10, .pointer (some q19)), (11, .bool r16.2), (12, .pointer (some q28)), (13, .string (bs r43.1)), (14, .bool r43.2.1), (15, .int .i64 r43.2.2), (20, .agg [.int .i64 v_0.number, .int .i64 v_0.bound, .int .i64 v_0.height, .int .i64 v_0.width, .slice ad1 v_0.parts.length cap2].toArray), (21, .slice ad_errata errata.length cap_errata), (22, .int .i64 r7), (23, .int .i64 r7), (24, .bool (decide (r7 ≠ 0))), (26, .tuple [.agg (enccited r16.1).toArray, .bool r16.2].toArray), (27, .string (bs cite)), (28, .tuple [.agg (enccited r16.1).toArray, .bool r16.2].toArray), (29, .agg (enccited r16.1).toArray), (30, .bool r16.2), (31, .bool r16.2), (32, .bool (!r16.2)), (33, .pointer (some (q19.add 1))), (34, .agg [.int .i64 r16.1.numbers.e0, .int .i64 r16.1.numbers.e1, .int .i64 r16.1.numbers.e2].toArray), (35, .pointer (some q19)), (36, .int .u8 r16.1.style), (37, .bool (decide (r16.1.style = 2))), (38, .tuple [.string (bs r43.1), .bool r43.2.1, .int .i64 r43.2.2].toArray), (39, .agg [.int .i64 v_0.number, .int .i64 v_0.bound, .int .i64 v_0.height, .int .i64 v_0.width, .slice ad1 v_0.parts.length cap2].toArray), (40, .slice ad_errata errata.length cap_errata), (41, .pointer (some q28)), (42, .int .i64 r16.1.numbers.e0), (43, .pointer (some (q28.add 1))), (44, .int .i64 r16.1.numbers.e1), (45, .tuple [.string (bs r43.1), .bool r43.2.1, .int .i64 r43.2.2].toArray), (46, .string (bs r43.1)), (47, .bool r43.2.1), (48, .int .i64 r43.2.2), (49, .int .i64 r43.2.2), (50, .bool (decide (r43.2.2 ≠ 0)))]) ⟨rfl, rfl, rfl, rfl, rfl, rfl, rfl, rfl, rfl, rfl, rfl, rfl, rfl, rfl, rfl, rfl, rfl, rfl, rfl, rfl, rfl, rfl, rfl, rfl, rfl, rfl, rfl, rfl, rfl, rfl, rfl, rfl, rfl, rfl, rfl, rfl, rfl, rfl, rfl, rfl, rfl, rfl, rfl, tv⟩ ?_
     refine drG 5 mixed (by kernel_rfl) rfl (dt rfl (iaA U69 Z3 rfl rfl rfl (j := 0) rfl (by decide) fin1) (dt rfl (ld G3 rfl rfl ((sS 1 rfl hK30).take 1) rfl fin1) (dt rfl (iaA U69 Z3 rfl rfl rfl (j := 1) rfl (by decide) fin1) (dt rfl (ld G3 rfl rfl (((sS 1 rfl hK30).drop 1).take 1) rfl fin1) (dt rfl (a1 rfl fin1) (DF.nil fun K52 hF => (a1 rfl (a1 rfl (on (rt_ ?_))))))))))
     cases hr51
     intro a w hS hA
     refine ret3 hA rfl rfl rfl rfl ?_
     exact ⟨rfl, hS.ext⟩
   ·have hr53 := if_n hc41 hr27
    refine sk (sq (sq (rg (ldA G37 Z37 rfl rfl (sS 2 rfl hK6) rfl (m1 rfl ?_)))))
    obtain ⟨r54, hx55, hr56⟩ := bd_some hr53
    refine clK C37 rfl rfl rfl rfl (fun w H hH le => w37 hH v_0 (RVolume.mono _ _ _ _ (le.at 3 rfl) hh_v_0) (h_errata.mono (Flat.mono _) (le.at 3 rfl)) hx55) ?_
    rintro v_ K57 ⟨ad58, cap59, rfl, hl60⟩
    have := hl60.len
    refine lnL U100 rfl rfl (m1 rfl (on ?_))
    obtain ⟨e112, hl113, hr114⟩ := bd_some hr56
    refine jn (fun a w => ∃ t115, e112 = .inl t115 ∧ St M W H [K57, K29, K20, K5, H] [] w ∧ Has [] 122 a []) ?_ ?_
    ·refine bk ?_
     refine lp hl113 (fun s116 a w => St M W H [K57, K29, K20, K5, H] [] w ∧ Has [] 122 a [(3, .pointer (some q4)), (10, .pointer (some q19)), (12, .pointer (some q28)), (58, .slice ad58 r54.length cap59), (59, .int .i64 (r54.length : Int)), (60, .int .i64 (s116 : Int))]) ?_ ?_
     ·exact cu ⟨rfl, rfl, rfl, rfl, rfl, rfl, tv⟩
     ·rintro j s116 y119 hr117 hz118 a w ⟨hS, hA⟩
      refine TG.ap ?_ hS hA
      unfold m21_1 at hr117
      refine sq (rg (ltI rfl rfl rfl (on (sq ?_))))
      refine ci rfl (fun hc123 => ?_) (fun hc123 => ?_)
      ·have hr124 := if_p hc123 hr117
       refine sk (sq (bk (sq (rg ?_))))
       obtain ⟨x172, hx173, hr174⟩ := bd_some hr124
       obtain ⟨p175, rfl⟩ := hl60.adr hx173
       obtain ⟨cs176, hcs177, hq178, hr179⟩ := hl60.at hx173
       obtain rfl := hr179
       refine iaP U100 Z103 rfl rfl rfl rfl (lt_of hx173) (ldA G103 Z103 rfl rfl (sS 0 rfl hq178) rfl (va (cs := [.int .i64 x172.place.anchor, .int .i64 x172.place.column, .int .i64 x172.place.line, .int .i64 x172.place.lines, .int .i64 x172.day, .int .i64 x172.number]) Tryz.zeroValue103 Z103 rfl rfl rfl rfl rfl rfl rfl rfl fun q180 K181 hK182 => (on (sq (rg (iaA U69 Z3 rfl rfl rfl (j := 1) rfl (by decide) (ld G3 rfl rfl (((sS 2 rfl hK30).drop 1).take 1) rfl (fb 0 U103 rfl rfl rfl rfl Z63 (fb 1 U63 rfl rfl rfl rfl Z3 (ld G3 rfl rfl (((sS 0 rfl hK182).drop 1).take 1) rfl ?_))))))))))
       obtain ⟨hk183, hr184⟩ := chk_some hr174
       refine sbI rfl rfl rfl hk183 (fb 2 U37 rfl rfl rfl rfl Z3 (ld G3 rfl rfl (((sS 4 rfl hK6).drop 2).take 1) rfl ?_))
       obtain ⟨hk185, hr186⟩ := chk_some hr184
       refine mlI rfl rfl rfl hk185 (iaA U69 Z3 rfl rfl rfl (j := 2) rfl (by decide) (ld G3 rfl rfl ((sS 2 rfl hK30).drop 2) rfl ?_))
       obtain ⟨hk187, hr188⟩ := chk_some hr186
       refine adI rfl rfl rfl hk187 (fb 0 U103 rfl rfl rfl rfl Z63 (fb 2 U63 rfl rfl rfl rfl Z3 (ld G3 rfl rfl (((sS 0 rfl hK182).drop 2).take 1) rfl ?_)))
       obtain ⟨hk189, hr190⟩ := chk_some hr188
       refine sbI rfl rfl rfl hk189 (a1 rfl (on (sq ?_)))
       obtain ⟨t194, hx195, hr196⟩ := bd_some hr190
       refine jn (fun a w => St M W H [K181, K57, K29, K20, K5, H] [] w ∧ Has [] 122 a [(3, .pointer (some q4)), (10, .pointer (some q19)), (12, .pointer (some q28)), (17, .pointer (some q180)), (18, .int .i64 ((((r16.1.numbers.e1 - x172.place.column) * v_0.height) + r16.1.numbers.e2) - x172.place.line)), (19, .bool t194), (58, .slice (some p175) r54.length cap59), (59, .int .i64 (r54.length : Int)), (60, .int .i64 (s116 : Int))]) ?_ ?_
       ·refine rg (fb 4 U103 rfl rfl rfl rfl Z3 (ld G3 rfl rfl (((sS 0 rfl hK182).drop 4).take 1) rfl (iaA U69 Z3 rfl rfl rfl (j := 1) rfl (by decide) (ld G3 rfl rfl (((sS 2 rfl hK30).drop 1).take 1) rfl (eqI rfl rfl rfl (m1 rfl ?_))))))
        by_cases hb197 : x172.day = r16.1.numbers.e1
        ·have hr198 := if_p hb197 hx195
         refine gt hb197 rfl (fb 5 U103 rfl rfl rfl rfl Z3 (gt hb197 rfl (ld G3 rfl rfl ((sS 0 rfl hK182).drop 5) rfl (gt hb197 rfl (iaA U69 Z3 rfl rfl rfl (j := 2) rfl (by decide) (gt hb197 rfl (ld G3 rfl rfl ((sS 2 rfl hK30).drop 2) rfl (gt hb197 rfl (eqI rfl rfl rfl (pt hb197 rfl rfl (a1 rfl ?_)))))))))))
         refine on ?_
         cases hr198
         exact cu ⟨rfl, rfl, rfl, rfl, rfl, rfl, rfl, rfl, rfl, tv⟩
        ·have hr199 := if_n hb197 hx195
         refine gf hb197 rfl (gf hb197 rfl (gf hb197 rfl (gf hb197 rfl (gf hb197 rfl (pf hb197 rfl rfl (a1 rfl (on ?_)))))))
         cases hr199
         exact cu ⟨rfl, rfl, rfl, rfl, rfl, rfl, rfl, rfl, rfl, tv⟩
       ·rintro a w ⟨hS, hA⟩
        refine TG.ap ?_ hS hA
        refine sq (sq (rg (fb 0 U106 rfl rfl rfl rfl Z5 (ld G5 rfl rfl ((sS 3 rfl hK21).take 1) rfl (eqI rfl rfl rfl (on ?_))))))
        obtain ⟨t215, hx216, hr217⟩ := bd_some hr196
        refine jn (fun a w => St M W H [K181, K57, K29, K20, K5, H] [] w ∧ Has [] 122 a [(3, .pointer (some q4)), (10, .pointer (some q19)), (12, .pointer (some q28)), (17, .pointer (some q180)), (19, .bool t215), (58, .slice (some p175) r54.length cap59), (59, .int .i64 (r54.length : Int)), (60, .int .i64 (s116 : Int))]) ?_ ?_
        ·refine ci rfl (fun hc218 => ?_) (fun hc218 => ?_)
         ·have hr219 := if_p hc218 hx216
          obtain ⟨t231, hx232, hr233⟩ := bd_some hr219
          refine jn (fun a w => St M W H [K181, K57, K29, K20, K5, H] [] w ∧ Has [] 122 a [(3, .pointer (some q4)), (10, .pointer (some q19)), (12, .pointer (some q28)), (17, .pointer (some q180)), (19, .bool t231), (58, .slice (some p175) r54.length cap59), (59, .int .i64 (r54.length : Int)), (60, .int .i64 (s116 : Int))]) ?_ ?_
          ·refine rg (iaA U69 Z3 rfl rfl rfl (j := 2) rfl (by decide) (ld G3 rfl rfl ((sS 2 rfl hK30).drop 2) rfl (fb 2 U37 rfl rfl rfl rfl Z3 (ld G3 rfl rfl (((sS 4 rfl hK6).drop 2).take 1) rfl ?_))))
           obtain ⟨r234, hx235, hr236⟩ := bd_some hx232
           refine clS C40 rfl rfl rfl rfl (fun w H hH le => w40 r16.1.numbers.e2 1 v_0.height hx235) (m1 rfl ?_)
           rcases Bool.eq_false_or_eq_true (r234) with hb237 | hb237
           ·have hr238 := if_p hb237 hr236
            refine gN rfl rfl (hb237) (m1 rfl (gN rfl rfl (hb237) (fb 0 U103 rfl rfl rfl rfl Z63 (gN rfl rfl (hb237) (fb 3 U63 rfl rfl rfl rfl Z3 (gN rfl rfl (hb237) (ld G3 rfl rfl (((sS 0 rfl hK182).drop 3).take 1) rfl (gN rfl rfl (hb237) ?_))))))))
            obtain ⟨hk239, hr240⟩ := chk_some hr238
            refine sbI rfl rfl rfl hk239 (gN rfl rfl (hb237) ?_)
            obtain ⟨r241, hx242, hr243⟩ := bd_some hr240
            refine clS C40 rfl rfl rfl rfl (fun w H hH le => w40 ((((r16.1.numbers.e1 - x172.place.column) * v_0.height) + r16.1.numbers.e2) - x172.place.line) 0 (x172.place.lines - 1) hx242) (pT rfl rfl (hb237) rfl (a1 rfl (on ?_)))
            cases hr243
            exact cu ⟨rfl, rfl, rfl, rfl, rfl, rfl, rfl, rfl, tv⟩
           ·have hr244 := if_f hb237 hr236
            refine gF rfl rfl (hb237) rfl (gF rfl rfl (hb237) rfl (gF rfl rfl (hb237) rfl (gF rfl rfl (hb237) rfl (gF rfl rfl (hb237) rfl (gF rfl rfl (hb237) rfl (pF rfl rfl (hb237) rfl (a1 rfl (on ?_))))))))
            cases hr244
            exact cu ⟨rfl, rfl, rfl, rfl, rfl, rfl, rfl, rfl, tv⟩
          ·rintro a w ⟨hS, hA⟩
           refine TG.apJ ?_ hS hA
           cases hr233
           exact cu ⟨rfl, rfl, rfl, rfl, rfl, rfl, rfl, rfl, tv⟩
         ·have hr245 := if_n hc218 hx216
          refine sk ?_
          cases hr245
          exact cu ⟨rfl, rfl, rfl, rfl, rfl, rfl, rfl, rfl, tv⟩
        ·rintro a w ⟨hS, hA⟩
         refine TG.ap ?_ hS hA
         refine sq ?_
         obtain ⟨t249, hx250, hr251⟩ := bd_some hr217
         refine jn (fun a w => St M W H [K181, K57, K29, K20, K5, H] [] w ∧ Has [] 122 a [(3, .pointer (some q4)), (10, .pointer (some q19)), (12, .pointer (some q28)), (17, .pointer (some q180)), (58, .slice (some p175) r54.length cap59), (59, .int .i64 (r54.length : Int)), (60, .int .i64 (s116 : Int)), (115, .bool t249)]) ?_ ?_
         ·refine rg (m1 rfl (m1 rfl ?_))
          rcases Bool.eq_false_or_eq_true (t215) with hb252 | hb252
          ·have hr253 := if_p hb252 hx250
           refine gN rfl rfl (hb252) (iaA U69 Z3 rfl rfl rfl (j := 0) rfl (by decide) (gN rfl rfl (hb252) (ld G3 rfl rfl ((sS 2 rfl hK30).take 1) rfl (gN rfl rfl (hb252) (fb 0 U37 rfl rfl rfl rfl Z3 (gN rfl rfl (hb252) (ld G3 rfl rfl ((sS 4 rfl hK6).take 1) rfl (gN rfl rfl (hb252) (eqI rfl rfl rfl (pT rfl rfl (hb252) rfl (on ?_)))))))))))
           cases hr253
           exact cu ⟨rfl, rfl, rfl, rfl, rfl, rfl, rfl, rfl, tv⟩
          ·have hr254 := if_f hb252 hx250
           refine gF rfl rfl (hb252) rfl (gF rfl rfl (hb252) rfl (gF rfl rfl (hb252) rfl (gF rfl rfl (hb252) rfl (gF rfl rfl (hb252) rfl (pF rfl rfl (hb252) rfl (on ?_))))))
           cases hr254
           exact cu ⟨rfl, rfl, rfl, rfl, rfl, rfl, rfl, rfl, tv⟩
         ·rintro a w ⟨hS, hA⟩
          refine TG.ap ?_ hS hA
          refine cb rfl (fun hc259 => ?_) (fun hc259 => ?_)
          ·have hr260 := if_p hc259 hr251
           refine sq (drG 6 mixed (by kernel_rfl) rfl (dt rfl (fb 0 U103 rfl rfl rfl rfl Z63 fin1) (dt rfl (fb 0 U63 rfl rfl rfl rfl Z3 fin1) (dt rfl (ld G3 rfl rfl ((sS 1 rfl hK182).take 1) rfl fin1) (dt rfl (fb 1 U37 rfl rfl rfl rfl Z3 fin1) (dt rfl (ld G3 rfl rfl (((sS 5 rfl hK6).drop 1).take 1) rfl fin1) (dt rfl (a1 rfl fin1) (DF.nil fun K261 hF => (a1 rfl (a1 rfl (on ?_)))))))))))
           refine rt_ ?_
           cases hr260
           obtain rfl := Fin.out hz118
           cases hr114
           intro a w hS hA
           refine ret3 hA rfl rfl rfl rfl ?_
           exact ⟨rfl, hS.ext⟩
          ·have hr262 := if_f hc259 hr251
           refine sk (rg (adI rfl rfl rfl (by omega) (m1 rfl (on ?_))))
           cases hr262
           intro a w hS hA
           exact ⟨_, hz118, hS.selH [1, 2, 3, 4, 5] rfl, hA.cut ⟨rfl, rfl, rfl, rfl, rfl, rfl, tv⟩⟩
      ·have hr263 := if_n hc123 hr117
       refine xt rfl ?_
       cases hr263
       obtain rfl := Fin.out hz118
       intro a w hS hA
       exact ⟨_, rfl, hS, hA.cut tv⟩
    ·rintro a w ⟨t115, rfl, hS, hA⟩
     refine TG.ap ?_ hS hA
     refine sq (rg (a1 rfl (a1 rfl (a1 rfl (on (rt_ ?_))))))
     cases hr114
     intro a w hS hA
     refine ret3 hA rfl rfl rfl rfl ?_
     exact ⟨rfl, hS.ext⟩

theorem w16 {M : Prop} {W : World} {H : Hp} (hH : H.le (hp W)) {ad_a_0 : Option Addr} {cap_a_0 : Nat} {a_0 : List Paragraph} (h_a_0 : Sl (Flat encParagraph) 2 H ad_a_0 cap_a_0 a_0) {ad_b_1 : Option Addr} {cap_b_1 : Nat} {b_1 : List Paragraph} (h_b_1 : Sl (Flat encParagraph) 2 H ad_b_1 cap_b_1 b_1) {r : Bool} (hr : m16 a_0 b_1 = some r) : Calls Tryz.prog 16 [.slice ad_a_0 a_0.length cap_a_0, .slice ad_b_1 b_1.length cap_b_1].toArray W (RetS M W (.bool r)) := by
 have := h_a_0.len
 have := h_b_1.len
 unfold m16 at hr
 refine enterG (M := M) Tryz.func16 rfl Tryz.ntmps16 rfl hH ?_
 refine sq (rg (a1 rfl (on (sq (sq (rg (m1 rfl (lnL U31 rfl rfl (m1 rfl (lnL U31 rfl rfl (neI rfl rfl rfl ?_)))))))))))
 refine on ?_
 refine ci rfl (fun hc4 => ?_) (fun hc4 => ?_)
 ·have hr5 := if_p hc4 hr
  refine sq (rg (a1 rfl (on (rt_ ?_))))
  cases hr5
  intro a w hS hA
  refine ret1 hA rfl rfl ?_
  exact ⟨rfl, hS.ext⟩
 ·have hr6 := if_n hc4 hr
  refine sk (sq (sq (rg (a1 rfl (on ?_)))))
  obtain ⟨e31, hl32, hr33⟩ := bd_some hr6
  refine jn (fun a w => ∃ t34, e31 = .inl t34 ∧ St M W H [H] [] w ∧ Has [] 26 a []) ?_ ?_
  ·refine bk ?_
   refine lp hl32 (fun s35 a w => St M W H [H] [] w ∧ Has [] 26 a [(0, .slice ad_a_0 a_0.length cap_a_0), (1, .slice ad_b_1 b_1.length cap_b_1), (5, .int .i64 (s35 : Int))]) ?_ ?_
   ·exact cu ⟨rfl, rfl, rfl, tv⟩
   ·rintro j s35 y38 hr36 hz37 a w ⟨hS, hA⟩
    refine TG.ap ?_ hS hA
    unfold m16_1 at hr36
    refine sq (sq (rg (m1 rfl (m1 rfl (lnL U31 rfl rfl (ltI rfl rfl rfl (on ?_)))))))
    refine ci rfl (fun hc42 => ?_) (fun hc42 => ?_)
    ·have hr43 := if_p hc42 hr36
     refine sk (sq (bk (sq ?_)))
     obtain ⟨x64, hx65, hr66⟩ := bd_some hr43
     obtain ⟨p67, rfl⟩ := h_a_0.adr hx65
     obtain ⟨cs68, hcs69, hq70, hr71⟩ := h_a_0.at hx65
     obtain rfl := hr71
     obtain ⟨x72, hx73, hr74⟩ := bd_some hr66
     obtain ⟨p75, rfl⟩ := h_b_1.adr hx73
     obtain ⟨cs76, hcs77, hq78, hr79⟩ := h_b_1.at hx73
     obtain rfl := hr79
     refine drG 8 mixed (by kernel_rfl) rfl (dt rfl (m1 rfl fin1) (dt rfl (m1 rfl fin1) (dt rfl (iaP U31 Z67 rfl rfl rfl rfl (lt_of hx65) fin1) (dt rfl (ldA G67 Z67 rfl rfl (sS 1 rfl hq70) rfl fin1) (dt rfl (m1 rfl fin1) (dt rfl (m1 rfl fin1) (dt rfl (iaP U31 Z67 rfl rfl rfl rfl (lt_of hx73) fin1) (dt rfl (ldA G67 Z67 rfl rfl (sS 1 rfl hq78) rfl fin1) (DF.nil fun K80 hF => (neA x64 x72 T10.Q67 rfl rfl rfl (on ?_)))))))))))
     refine cb rfl (fun hc84 => ?_) (fun hc84 => ?_)
     ·replace hc84 := nbt hc84
      replace hc84 := of_decide_eq_false hc84
      have hr85 := if_n hc84 hr74
      refine sq (rg (a1 rfl (on (rt_ ?_))))
      cases hr85
      obtain rfl := Fin.out hz37
      cases hr33
      intro a w hS hA
      refine ret1 hA rfl rfl ?_
      exact ⟨rfl, hS.ext⟩
     ·replace hc84 := nbf hc84
      replace hc84 := of_decide_eq_true hc84
      have hr86 := if_p hc84 hr74
      refine sk (rg (m1 rfl (adI rfl rfl rfl (by omega) (a1 rfl (on ?_)))))
      cases hr86
      intro a w hS hA
      exact ⟨_, hz37, hS.selH [1] rfl, hA.cut ⟨rfl, rfl, rfl, tv⟩⟩
    ·have hr87 := if_n hc42 hr36
     refine xt rfl ?_
     cases hr87
     obtain rfl := Fin.out hz37
     intro a w hS hA
     exact ⟨_, rfl, hS, hA.cut tv⟩
  ·rintro a w ⟨t34, rfl, hS, hA⟩
   refine TG.ap ?_ hS hA
   refine sq (rg (a1 rfl (on (rt_ ?_))))
   cases hr33
   intro a w hS hA
   refine ret1 hA rfl rfl ?_
   exact ⟨rfl, hS.ext⟩

theorem w18 {M : Prop} {W : World} {H : Hp} (hH : H.le (hp W)) {ad_a_0 : Option Addr} {cap_a_0 : Nat} {a_0 : List Place} (h_a_0 : Sl (Flat encPlace) 4 H ad_a_0 cap_a_0 a_0) {ad_b_1 : Option Addr} {cap_b_1 : Nat} {b_1 : List Place} (h_b_1 : Sl (Flat encPlace) 4 H ad_b_1 cap_b_1 b_1) {r : Bool} (hr : m18 a_0 b_1 = some r) : Calls Tryz.prog 18 [.slice ad_a_0 a_0.length cap_a_0, .slice ad_b_1 b_1.length cap_b_1].toArray W (RetS M W (.bool r)) := by
 have := h_a_0.len
 have := h_b_1.len
 unfold m18 at hr
 refine enterG (M := M) Tryz.func18 rfl Tryz.ntmps18 rfl hH ?_
 refine sq (rg (a1 rfl (on (sq (sq (rg (m1 rfl (lnL U42 rfl rfl (m1 rfl (lnL U42 rfl rfl (neI rfl rfl rfl ?_)))))))))))
 refine on ?_
 refine ci rfl (fun hc4 => ?_) (fun hc4 => ?_)
 ·have hr5 := if_p hc4 hr
  refine sq (rg (a1 rfl (on (rt_ ?_))))
  cases hr5
  intro a w hS hA
  refine ret1 hA rfl rfl ?_
  exact ⟨rfl, hS.ext⟩
 ·have hr6 := if_n hc4 hr
  refine sk (sq (sq (rg (a1 rfl (on ?_)))))
  obtain ⟨e31, hl32, hr33⟩ := bd_some hr6
  refine jn (fun a w => ∃ t34, e31 = .inl t34 ∧ St M W H [H] [] w ∧ Has [] 26 a []) ?_ ?_
  ·refine bk ?_
   refine lp hl32 (fun s35 a w => St M W H [H] [] w ∧ Has [] 26 a [(0, .slice ad_a_0 a_0.length cap_a_0), (1, .slice ad_b_1 b_1.length cap_b_1), (5, .int .i64 (s35 : Int))]) ?_ ?_
   ·exact cu ⟨rfl, rfl, rfl, tv⟩
   ·rintro j s35 y38 hr36 hz37 a w ⟨hS, hA⟩
    refine TG.ap ?_ hS hA
    unfold m18_1 at hr36
    refine sq (sq (rg (m1 rfl (m1 rfl (lnL U42 rfl rfl (ltI rfl rfl rfl (on ?_)))))))
    refine ci rfl (fun hc42 => ?_) (fun hc42 => ?_)
    ·have hr43 := if_p hc42 hr36
     refine sk (sq (bk (sq ?_)))
     obtain ⟨x64, hx65, hr66⟩ := bd_some hr43
     obtain ⟨p67, rfl⟩ := h_a_0.adr hx65
     obtain ⟨cs68, hcs69, hq70, hr71⟩ := h_a_0.at hx65
     obtain rfl := hr71
     obtain ⟨x72, hx73, hr74⟩ := bd_some hr66
     obtain ⟨p75, rfl⟩ := h_b_1.adr hx73
     obtain ⟨cs76, hcs77, hq78, hr79⟩ := h_b_1.at hx73
     obtain rfl := hr79
     refine drG 8 mixed (by kernel_rfl) rfl (dt rfl (m1 rfl fin1) (dt rfl (m1 rfl fin1) (dt rfl (iaP U42 Z63 rfl rfl rfl rfl (lt_of hx65) fin1) (dt rfl (ldA G63 Z63 rfl rfl (sS 1 rfl hq70) rfl fin1) (dt rfl (m1 rfl fin1) (dt rfl (m1 rfl fin1) (dt rfl (iaP U42 Z63 rfl rfl rfl rfl (lt_of hx73) fin1) (dt rfl (ldA G63 Z63 rfl rfl (sS 1 rfl hq78) rfl fin1) (DF.nil fun K80 hF => (neA x64 x72 T10.Q63 rfl rfl rfl (on ?_)))))))))))
     refine cb rfl (fun hc84 => ?_) (fun hc84 => ?_)
     ·replace hc84 := nbt hc84
      replace hc84 := of_decide_eq_false hc84
      have hr85 := if_n hc84 hr74
      refine sq (rg (a1 rfl (on (rt_ ?_))))
      cases hr85
      obtain rfl := Fin.out hz37
      cases hr33
      intro a w hS hA
      refine ret1 hA rfl rfl ?_
      exact ⟨rfl, hS.ext⟩
     ·replace hc84 := nbf hc84
      replace hc84 := of_decide_eq_true hc84
      have hr86 := if_p hc84 hr74
      refine sk (rg (m1 rfl (adI rfl rfl rfl (by omega) (a1 rfl (on ?_)))))
      cases hr86
      intro a w hS hA
      exact ⟨_, hz37, hS.selH [1] rfl, hA.cut ⟨rfl, rfl, rfl, tv⟩⟩
    ·have hr87 := if_n hc42 hr36
     refine xt rfl ?_
     cases hr87
     obtain rfl := Fin.out hz37
     intro a w hS hA
     exact ⟨_, rfl, hS, hA.cut tv⟩
  ·rintro a w ⟨t34, rfl, hS, hA⟩
   refine TG.ap ?_ hS hA
   refine sq (rg (a1 rfl (on (rt_ ?_))))
   cases hr33
   intro a w hS hA
   refine ret1 hA rfl rfl ?_
   exact ⟨rfl, hS.ext⟩

theorem w12 {M : Prop} {W : World} {H : Hp} (hH : H.le (hp W)) (hg : Gv M H)  {r : Bool} (hr : m12 = some r) : Calls Tryz.prog 12 [].toArray W (RetS M W (.bool r)) := by
 unfold m12 at hr
 refine enterG (M := M) Tryz.func12 rfl Tryz.ntmps12 rfl hH ?_
 refine sq (rg (a1 rfl (on (sq (rg ?_)))))
 obtain ⟨r1, hx2, hr3⟩ := bd_some hr
 refine clK C25 rfl rfl rfl rfl (fun w H hH le => w25 hH  hx2) ?_
 rintro v_ K4 ⟨cs5, ad7, cap8, rfl, hr6, hl9⟩
 have hr10 := hr6
 obtain ⟨ad11, cap12, rfl, hl13⟩ := hr6
 have := hl13.len
 have := hl9.len
 refine m1 rfl (ex rfl rfl rfl (ex rfl rfl rfl (va (cs := [.int .i64 r1.1.number, .int .i64 r1.1.bound, .int .i64 r1.1.height, .int .i64 r1.1.width, .slice ad11 r1.1.parts.length cap12]) Tryz.zeroValue37 Z37 rfl rfl rfl rfl rfl rfl rfl rfl fun q14 K15 hK16 => (a1 rfl (on (sq (rg (ldA G37 Z37 rfl rfl (sS 0 rfl hK16) rfl (m1 rfl ?_)))))))))
 obtain ⟨r17, hx18, hr19⟩ := bd_some hr3
 refine clK C13 rfl rfl rfl rfl (fun w H hH le => w13 hH r1.1 (RVolume.mono _ _ _ _ (le.at 1 rfl) hr10) (hl9.mono (Flat.mono _) (le.at 1 rfl)) 60 hx18) ?_
 rintro v_ K20 ⟨ad21, cap22, rfl, hl23⟩
 have := hl23.len
 refine m1 rfl (ex rfl rfl rfl (ex rfl rfl rfl (a1 rfl (a1 rfl (on (sq (rg (ldA G37 Z37 rfl rfl (sS 1 rfl hK16) rfl (m1 rfl ?_)))))))))
 obtain ⟨r24, hx25, hr26⟩ := bd_some hr19
 refine clK C17 rfl rfl rfl rfl (fun w H hH le => w17 hH r1.1 (RVolume.mono _ _ _ _ (le.at 2 rfl) hr10) (hl9.mono (Flat.mono _) (le.at 2 rfl)) hx25) ?_
 rintro v_ K27 ⟨ad28, cap29, rfl, hl30⟩
 have := hl30.len
 refine m1 rfl (ex rfl rfl rfl (ex rfl rfl rfl (a1 rfl (a1 rfl (on (sq (rg (ldA G37 Z37 rfl rfl (sS 2 rfl hK16) rfl (m1 rfl ?_)))))))))
 obtain ⟨r31, hx32, hr33⟩ := bd_some hr26
 refine clS C20 rfl rfl rfl rfl (fun w H hH le => w20 hH (hg.mono (le.at 4 rfl)) r1.1 (RVolume.mono _ _ _ _ (le.at 3 rfl) hr10) (hl9.mono (Flat.mono _) (le.at 3 rfl)) 12 0 0 hx32) (m1 rfl (ex rfl rfl rfl (ex rfl rfl rfl (a1 rfl (a1 rfl (on (sq (rg (ldA G37 Z37 rfl rfl (sS 2 rfl hK16) rfl (m1 rfl ?_))))))))))
 obtain ⟨r34, hx35, hr36⟩ := bd_some hr33
 refine clS C20 rfl rfl rfl rfl (fun w H hH le => w20 hH (hg.mono (le.at 4 rfl)) r1.1 (RVolume.mono _ _ _ _ (le.at 3 rfl) hr10) (hl9.mono (Flat.mono _) (le.at 3 rfl)) 12 1 0 hx35) (m1 rfl (ex rfl rfl rfl (ex rfl rfl rfl (a1 rfl (a1 rfl (on (sq (rg (ldA G37 Z37 rfl rfl (sS 2 rfl hK16) rfl (m1 rfl ?_))))))))))
 obtain ⟨r37, hx38, hr39⟩ := bd_some hr36
 refine clS C21 rfl rfl rfl rfl (fun w H hH le => w21 hH (hg.mono (le.at 4 rfl)) r1.1 (RVolume.mono _ _ _ _ (le.at 3 rfl) hr10) (hl9.mono (Flat.mono _) (le.at 3 rfl)) [118, 111, 108, 46, 32, 51, 44, 32, 99, 111, 108, 46, 32, 49, 44, 32, 108, 46, 32, 51] hx38) (m1 rfl (ex rfl rfl rfl (ex rfl rfl rfl (ex rfl rfl rfl (a1 rfl (a1 rfl (a1 rfl (on (sq ?_)))))))))
 obtain ⟨t86, hx87, hr88⟩ := bd_some hr39
 refine jn (fun a w => St M W H [K27, K20, K15, K4, H] [] w ∧ Has [] 99 a [(0, .bool t86)]) ?_ ?_
 ·refine rg (m1 rfl (eqI rfl rfl rfl (m1 rfl ?_)))
  by_cases hb89 : r17.2 = 0
  ·have hr90 := if_p hb89 hx87
   refine gt hb89 rfl (m1 rfl (gt hb89 rfl (eqI rfl rfl rfl (pt hb89 rfl rfl (m1 rfl ?_)))))
   by_cases hb91 : r24.2 = 0
   ·have hr92 := if_p hb91 hr90
    refine gt hb91 rfl (m1 rfl (gt hb91 rfl (eqI rfl rfl rfl (pt hb91 rfl rfl (m1 rfl ?_)))))
    by_cases hb93 : r31.2 = 0
    ·have hr94 := if_p hb93 hr92
     refine gt hb93 rfl (m1 rfl (gt hb93 rfl (eqI rfl rfl rfl (pt hb93 rfl rfl (m1 rfl ?_)))))
     by_cases hb95 : r34.2 = 0
     ·have hr96 := if_p hb95 hr94
      refine gt hb95 rfl (m1 rfl (gt hb95 rfl (eqI rfl rfl rfl (pt hb95 rfl rfl (m1 rfl ?_)))))
      by_cases hb97 : r37.2.2 = 0
      ·have hr98 := if_p hb97 hr96
       refine gt hb97 rfl (m1 rfl (gt hb97 rfl (bu (cs := [.int .i64 20, .string (bs [84, 104, 101, 32, 83, 112, 101, 97, 107, 101, 114, 32, 116, 111, 111, 107, 32, 116, 104, 101, 32, 99, 104, 97, 105, 114, 46])]) T10.B67 rfl rfl rfl (gt hb97 rfl (bu (cs := [.int .i64 12, .string (bs [80, 114, 97, 121, 101, 114, 115, 32, 119, 101, 114, 101, 32, 115, 97, 105, 100, 46])]) T10.B67 rfl rfl rfl (gt hb97 rfl (bu (cs := [.int .i64 15, .string (bs [65, 32, 98, 105, 108, 108, 32, 119, 97, 115, 32, 114, 101, 97, 100, 46])]) T10.B67 rfl rfl rfl (gt hb97 rfl (bS (cs := [.int .i64 20, .string (bs [84, 104, 101, 32, 83, 112, 101, 97, 107, 101, 114, 32, 116, 111, 111, 107, 32, 116, 104, 101, 32, 99, 104, 97, 105, 114, 46]), .int .i64 12, .string (bs [80, 114, 97, 121, 101, 114, 115, 32, 119, 101, 114, 101, 32, 115, 97, 105, 100, 46]), .int .i64 15, .string (bs [65, 32, 98, 105, 108, 108, 32, 119, 97, 115, 32, 114, 101, 97, 100, 46])]) T10.E31 rfl rfl rfl rfl fun q99 K100 hq101 hK102 => ?_)))))))))
       have hl103 : Sl (Flat encParagraph) 2 K100 (some q99) 3 ([(⟨20, [84, 104, 101, 32, 83, 112, 101, 97, 107, 101, 114, 32, 116, 111, 111, 107, 32, 116, 104, 101, 32, 99, 104, 97, 105, 114, 46]⟩ : Paragraph), (⟨12, [80, 114, 97, 121, 101, 114, 115, 32, 119, 101, 114, 101, 32, 115, 97, 105, 100, 46]⟩ : Paragraph), (⟨15, [65, 32, 98, 105, 108, 108, 32, 119, 97, 115, 32, 114, 101, 97, 100, 46]⟩ : Paragraph)] : List Paragraph) := Sl.litR (css := [[.int .i64 20, .string (bs [84, 104, 101, 32, 83, 112, 101, 97, 107, 101, 114, 32, 116, 111, 111, 107, 32, 116, 104, 101, 32, 99, 104, 97, 105, 114, 46])], [.int .i64 12, .string (bs [80, 114, 97, 121, 101, 114, 115, 32, 119, 101, 114, 101, 32, 115, 97, 105, 100, 46])], [.int .i64 15, .string (bs [65, 32, 98, 105, 108, 108, 32, 119, 97, 115, 32, 114, 101, 97, 100, 46])]]) (l := ([(⟨20, [84, 104, 101, 32, 83, 112, 101, 97, 107, 101, 114, 32, 116, 111, 111, 107, 32, 116, 104, 101, 32, 99, 104, 97, 105, 114, 46]⟩ : Paragraph), (⟨12, [80, 114, 97, 121, 101, 114, 115, 32, 119, 101, 114, 101, 32, 115, 97, 105, 100, 46]⟩ : Paragraph), (⟨15, [65, 32, 98, 105, 108, 108, 32, 119, 97, 115, 32, 114, 101, 97, 100, 46]⟩ : Paragraph)] : List Paragraph)) ⟨⟨rfl, rfl, rfl⟩, ⟨rfl, rfl, rfl⟩, ⟨rfl, rfl, rfl⟩, tv⟩ hq101 hK102 rfl
       have := hl103.len
       refine gt hb97 rfl ?_
       obtain ⟨r104, hx105, hr106⟩ := bd_some hr98
       refine clS C16 rfl rfl rfl rfl (fun w H hH le => w16 hH (hl23.mono (Flat.mono _) (le.at 2 rfl)) (hl103.mono (Flat.mono _) (le.at 0 rfl)) hx105) (pt hb97 rfl rfl (m1 rfl ?_))
       rcases Bool.eq_false_or_eq_true (r104) with hb107 | hb107
       ·have hr108 := if_p hb107 hr106
        refine gN rfl rfl (hb107) (m1 rfl (gN rfl rfl (hb107) (bu (cs := [.int .i64 11, .int .i64 1, .int .i64 1, .int .i64 3]) T10.B63 rfl rfl rfl (gN rfl rfl (hb107) (bu (cs := [.int .i64 12, .int .i64 2, .int .i64 1, .int .i64 2]) T10.B63 rfl rfl rfl (gN rfl rfl (hb107) (bu (cs := [.int .i64 15, .int .i64 3, .int .i64 1, .int .i64 2]) T10.B63 rfl rfl rfl (gN rfl rfl (hb107) (bS (cs := [.int .i64 11, .int .i64 1, .int .i64 1, .int .i64 3, .int .i64 12, .int .i64 2, .int .i64 1, .int .i64 2, .int .i64 15, .int .i64 3, .int .i64 1, .int .i64 2]) T10.E42 rfl rfl rfl rfl fun q109 K110 hq111 hK112 => ?_)))))))))
        have hl113 : Sl (Flat encPlace) 4 K110 (some q109) 3 ([(⟨11, 1, 1, 3⟩ : Place), (⟨12, 2, 1, 2⟩ : Place), (⟨15, 3, 1, 2⟩ : Place)] : List Place) := Sl.litR (css := [[.int .i64 11, .int .i64 1, .int .i64 1, .int .i64 3], [.int .i64 12, .int .i64 2, .int .i64 1, .int .i64 2], [.int .i64 15, .int .i64 3, .int .i64 1, .int .i64 2]]) (l := ([(⟨11, 1, 1, 3⟩ : Place), (⟨12, 2, 1, 2⟩ : Place), (⟨15, 3, 1, 2⟩ : Place)] : List Place)) ⟨⟨rfl, rfl, rfl⟩, ⟨rfl, rfl, rfl⟩, ⟨rfl, rfl, rfl⟩, tv⟩ hq111 hK112 rfl
        have := hl113.len
        refine gN rfl rfl (hb107) ?_
        obtain ⟨r114, hx115, hr116⟩ := bd_some hr108
        refine clS C18 rfl rfl rfl rfl (fun w H hH le => w18 hH (hl30.mono (Flat.mono _) (le.at 2 rfl)) (hl113.mono (Flat.mono _) (le.at 0 rfl)) hx115) (pT rfl rfl (hb107) rfl (m1 rfl ?_))
        rcases Bool.eq_false_or_eq_true (r114) with hb117 | hb117
        ·have hr118 := if_p hb117 hr116
         refine gN rfl rfl (hb117) (m1 rfl (gN rfl rfl (hb117) (eqS rfl rfl rfl (pT rfl rfl (hb117) rfl (m1 rfl ?_)))))
         by_cases hb119 : r31.1 = [118, 111, 108, 46, 32, 51, 44, 32, 99, 111, 108, 46, 32, 50, 44, 32, 108, 46, 32, 49]
         ·have hr120 := if_p hb119 hr118
          refine gt hb119 rfl (m1 rfl (gt hb119 rfl (eqS rfl rfl rfl (pt hb119 rfl rfl (m1 rfl ?_)))))
          by_cases hb121 : r34.1 = [118, 111, 108, 46, 32, 51, 44, 32, 52, 48, 44, 32, 112, 97, 114, 46, 32, 50]
          ·have hr122 := if_p hb121 hr120
           refine gt hb121 rfl (m1 rfl (gt hb121 rfl (eqI rfl rfl rfl (pt hb121 rfl rfl (m1 rfl ?_)))))
           by_cases hb123 : r37.1 = 11
           ·have hr124 := if_p hb123 hr122
            refine gt hb123 rfl (m1 rfl (gt hb123 rfl (eqI rfl rfl rfl (pt hb123 rfl rfl (a1 rfl (on ?_))))))
            cases hr124
            intro a w hS hA
            exact ⟨hS.selH [2, 3, 4, 5, 6] rfl, hA.cut ⟨rfl, tv⟩⟩
           ·have hr125 := if_n hb123 hr122
            refine gf hb123 rfl (gf hb123 rfl (pf hb123 rfl rfl (a1 rfl (on ?_))))
            cases hr125
            intro a w hS hA
            exact ⟨hS.selH [2, 3, 4, 5, 6] rfl, hA.cut ⟨rfl, tv⟩⟩
          ·have hr126 := if_n hb121 hr120
           refine gf hb121 rfl (gf hb121 rfl (pf hb121 rfl rfl (m1 rfl (gF rfl rfl rfl rfl (gF rfl rfl rfl rfl (pF rfl rfl rfl rfl (a1 rfl (on ?_))))))))
           cases hr126
           intro a w hS hA
           exact ⟨hS.selH [2, 3, 4, 5, 6] rfl, hA.cut ⟨rfl, tv⟩⟩
         ·have hr127 := if_n hb119 hr118
          refine gf hb119 rfl (gf hb119 rfl (pf hb119 rfl rfl (m1 rfl (gF rfl rfl rfl rfl (gF rfl rfl rfl rfl (pF rfl rfl rfl rfl (m1 rfl (gF rfl rfl rfl rfl (gF rfl rfl rfl rfl (pF rfl rfl rfl rfl (a1 rfl ?_)))))))))))
          refine on ?_
          cases hr127
          intro a w hS hA
          exact ⟨hS.selH [2, 3, 4, 5, 6] rfl, hA.cut ⟨rfl, tv⟩⟩
        ·have hr128 := if_f hb117 hr116
         refine gF rfl rfl (hb117) rfl (gF rfl rfl (hb117) rfl (pF rfl rfl (hb117) rfl (m1 rfl (gF rfl rfl rfl rfl (gF rfl rfl rfl rfl (pF rfl rfl rfl rfl (m1 rfl (gF rfl rfl rfl rfl (gF rfl rfl rfl rfl (pF rfl rfl rfl rfl (m1 rfl ?_)))))))))))
         refine gF rfl rfl rfl rfl (gF rfl rfl rfl rfl (pF rfl rfl rfl rfl (a1 rfl (on ?_))))
         cases hr128
         intro a w hS hA
         exact ⟨hS.selH [2, 3, 4, 5, 6] rfl, hA.cut ⟨rfl, tv⟩⟩
       ·have hr129 := if_f hb107 hr106
        refine gF rfl rfl (hb107) rfl (gF rfl rfl (hb107) rfl (gF rfl rfl (hb107) rfl (gF rfl rfl (hb107) rfl (gF rfl rfl (hb107) rfl (gF rfl rfl (hb107) rfl (pF rfl rfl (hb107) rfl (m1 rfl (gF rfl rfl rfl rfl (gF rfl rfl rfl rfl (pF rfl rfl rfl rfl (m1 rfl ?_)))))))))))
        refine gF rfl rfl rfl rfl (gF rfl rfl rfl rfl (pF rfl rfl rfl rfl (m1 rfl (gF rfl rfl rfl rfl (gF rfl rfl rfl rfl (pF rfl rfl rfl rfl (m1 rfl (gF rfl rfl rfl rfl (gF rfl rfl rfl rfl (pF rfl rfl rfl rfl (a1 rfl ?_)))))))))))
        refine on ?_
        cases hr129
        intro a w hS hA
        exact ⟨hS.selH [1, 2, 3, 4, 5] rfl, hA.cut ⟨rfl, tv⟩⟩
      ·have hr130 := if_n hb97 hr96
       refine gf hb97 rfl (gf hb97 rfl (gf hb97 rfl (gf hb97 rfl (gf hb97 rfl (gf hb97 rfl (pf hb97 rfl rfl (m1 rfl (gF rfl rfl rfl rfl (gF rfl rfl rfl rfl (gF rfl rfl rfl rfl (gF rfl rfl rfl rfl ?_)))))))))))
       refine gF rfl rfl rfl rfl (gF rfl rfl rfl rfl (pF rfl rfl rfl rfl (m1 rfl (gF rfl rfl rfl rfl (gF rfl rfl rfl rfl (pF rfl rfl rfl rfl (m1 rfl (gF rfl rfl rfl rfl (gF rfl rfl rfl rfl (pF rfl rfl rfl rfl (m1 rfl ?_)))))))))))
       refine gF rfl rfl rfl rfl (gF rfl rfl rfl rfl (pF rfl rfl rfl rfl (m1 rfl (gF rfl rfl rfl rfl (gF rfl rfl rfl rfl (pF rfl rfl rfl rfl (a1 rfl (on ?_))))))))
       cases hr130
       exact cu ⟨rfl, tv⟩
     ·have hr131 := if_n hb95 hr94
      refine gf hb95 rfl (gf hb95 rfl (pf hb95 rfl rfl (m1 rfl (gF rfl rfl rfl rfl (gF rfl rfl rfl rfl (gF rfl rfl rfl rfl (gF rfl rfl rfl rfl (gF rfl rfl rfl rfl (gF rfl rfl rfl rfl (pF rfl rfl rfl rfl (m1 rfl ?_)))))))))))
      refine gF rfl rfl rfl rfl (gF rfl rfl rfl rfl (gF rfl rfl rfl rfl (gF rfl rfl rfl rfl (gF rfl rfl rfl rfl (gF rfl rfl rfl rfl (pF rfl rfl rfl rfl (m1 rfl (gF rfl rfl rfl rfl (gF rfl rfl rfl rfl (pF rfl rfl rfl rfl (m1 rfl ?_)))))))))))
      refine gF rfl rfl rfl rfl (gF rfl rfl rfl rfl (pF rfl rfl rfl rfl (m1 rfl (gF rfl rfl rfl rfl (gF rfl rfl rfl rfl (pF rfl rfl rfl rfl (m1 rfl (gF rfl rfl rfl rfl (gF rfl rfl rfl rfl (pF rfl rfl rfl rfl (a1 rfl ?_)))))))))))
      refine on ?_
      cases hr131
      exact cu ⟨rfl, tv⟩
    ·have hr132 := if_n hb93 hr92
     refine gf hb93 rfl (gf hb93 rfl (pf hb93 rfl rfl (m1 rfl (gF rfl rfl rfl rfl (gF rfl rfl rfl rfl (pF rfl rfl rfl rfl (m1 rfl (gF rfl rfl rfl rfl (gF rfl rfl rfl rfl (gF rfl rfl rfl rfl (gF rfl rfl rfl rfl ?_)))))))))))
     refine gF rfl rfl rfl rfl (gF rfl rfl rfl rfl (pF rfl rfl rfl rfl (m1 rfl (gF rfl rfl rfl rfl (gF rfl rfl rfl rfl (gF rfl rfl rfl rfl (gF rfl rfl rfl rfl (gF rfl rfl rfl rfl (gF rfl rfl rfl rfl (pF rfl rfl rfl rfl (m1 rfl ?_)))))))))))
     refine gF rfl rfl rfl rfl (gF rfl rfl rfl rfl (pF rfl rfl rfl rfl (m1 rfl (gF rfl rfl rfl rfl (gF rfl rfl rfl rfl (pF rfl rfl rfl rfl (m1 rfl (gF rfl rfl rfl rfl (gF rfl rfl rfl rfl (pF rfl rfl rfl rfl (m1 rfl ?_)))))))))))
     refine gF rfl rfl rfl rfl (gF rfl rfl rfl rfl (pF rfl rfl rfl rfl (a1 rfl (on ?_))))
     cases hr132
     exact cu ⟨rfl, tv⟩
   ·have hr133 := if_n hb91 hr90
    refine gf hb91 rfl (gf hb91 rfl (pf hb91 rfl rfl (m1 rfl (gF rfl rfl rfl rfl (gF rfl rfl rfl rfl (pF rfl rfl rfl rfl (m1 rfl (gF rfl rfl rfl rfl (gF rfl rfl rfl rfl (pF rfl rfl rfl rfl (m1 rfl ?_)))))))))))
    refine gF rfl rfl rfl rfl (gF rfl rfl rfl rfl (gF rfl rfl rfl rfl (gF rfl rfl rfl rfl (gF rfl rfl rfl rfl (gF rfl rfl rfl rfl (pF rfl rfl rfl rfl (m1 rfl (gF rfl rfl rfl rfl (gF rfl rfl rfl rfl (gF rfl rfl rfl rfl (gF rfl rfl rfl rfl ?_)))))))))))
    refine gF rfl rfl rfl rfl (gF rfl rfl rfl rfl (pF rfl rfl rfl rfl (m1 rfl (gF rfl rfl rfl rfl (gF rfl rfl rfl rfl (pF rfl rfl rfl rfl (m1 rfl (gF rfl rfl rfl rfl (gF rfl rfl rfl rfl (pF rfl rfl rfl rfl (m1 rfl ?_)))))))))))
    refine gF rfl rfl rfl rfl (gF rfl rfl rfl rfl (pF rfl rfl rfl rfl (m1 rfl (gF rfl rfl rfl rfl (gF rfl rfl rfl rfl (pF rfl rfl rfl rfl (a1 rfl (on ?_))))))))
    cases hr133
    exact cu ⟨rfl, tv⟩
  ·have hr134 := if_n hb89 hx87
   refine gf hb89 rfl (gf hb89 rfl (pf hb89 rfl rfl (m1 rfl (gF rfl rfl rfl rfl (gF rfl rfl rfl rfl (pF rfl rfl rfl rfl (m1 rfl (gF rfl rfl rfl rfl (gF rfl rfl rfl rfl (pF rfl rfl rfl rfl (m1 rfl ?_)))))))))))
   refine gF rfl rfl rfl rfl (gF rfl rfl rfl rfl (pF rfl rfl rfl rfl (m1 rfl (gF rfl rfl rfl rfl (gF rfl rfl rfl rfl (gF rfl rfl rfl rfl (gF rfl rfl rfl rfl (gF rfl rfl rfl rfl (gF rfl rfl rfl rfl (pF rfl rfl rfl rfl (m1 rfl ?_)))))))))))
   refine gF rfl rfl rfl rfl (gF rfl rfl rfl rfl (gF rfl rfl rfl rfl (gF rfl rfl rfl rfl (gF rfl rfl rfl rfl (gF rfl rfl rfl rfl (pF rfl rfl rfl rfl (m1 rfl (gF rfl rfl rfl rfl (gF rfl rfl rfl rfl (pF rfl rfl rfl rfl (m1 rfl ?_)))))))))))
   refine gF rfl rfl rfl rfl (gF rfl rfl rfl rfl (pF rfl rfl rfl rfl (m1 rfl (gF rfl rfl rfl rfl (gF rfl rfl rfl rfl (pF rfl rfl rfl rfl (m1 rfl (gF rfl rfl rfl rfl (gF rfl rfl rfl rfl (pF rfl rfl rfl rfl (a1 rfl ?_)))))))))))
   refine on ?_
   cases hr134
   exact cu ⟨rfl, tv⟩
 ·rintro a w ⟨hS, hA⟩
  refine TG.ap ?_ hS hA
  refine rt_ ?_
  cases hr88
  intro a w hS hA
  refine ret1 hA rfl rfl ?_
  exact ⟨rfl, hS.ext⟩

theorem w14 {M : Prop} {W : World} {H : Hp} (hH : H.le (hp W)) {cs_v_0 : List Value} (v_0 : Volume) (h_v_0 : (RVolume) H cs_v_0 v_0) {r : Volume} (hr : m14 v_0 = some r) : Calls Tryz.prog 14 [.agg cs_v_0.toArray].toArray W (RetK M H W (fun v K => ∃ (cs0 : List Value), v = .agg cs0.toArray ∧ (RVolume) K cs0 r)) := by
 have hh_v_0 := h_v_0
 obtain ⟨ad1, cap2, rfl, hl3⟩ := h_v_0
 have := hl3.len
 unfold m14 at hr
 refine enterG (M := M) Tryz.func14 rfl Tryz.ntmps14 rfl hH ?_
 refine sq (rg (bI (cs := [.int .i64 v_0.number, .int .i64 v_0.bound, .int .i64 v_0.height, .int .i64 v_0.width, .slice ad1 v_0.parts.length cap2]) rfl rfl rfl fun q4 K5 hK6 => (al 1 (cs := [.int .i64 0, .int .i64 0, .int .i64 0, .int .i64 0, .slice none 0 0]) Tryz.zeroValue37 rfl rfl fun b7 => (on (sq (rg (fb 0 U24 rfl rfl rfl rfl Z3 (ld G3 rfl rfl ((sS 0 rfl hK6).take 1) rfl (fb 1 U24 rfl rfl rfl rfl Z3 (ld G3 rfl rfl (((sS 0 rfl hK6).drop 1).take 1) rfl (fb 2 U24 rfl rfl rfl rfl Z3 ?_)))))))))))
 refine ld G3 rfl rfl (((sS 0 rfl hK6).drop 2).take 1) rfl (fb 3 U24 rfl rfl rfl rfl Z3 (ld G3 rfl rfl (((sS 0 rfl hK6).drop 3).take 1) rfl (bu (cs := [.int .i64 v_0.number, .int .i64 v_0.bound, .int .i64 v_0.height, .int .i64 v_0.width, .slice none 0 0]) T10.B37 rfl rfl rfl (al 2 (cs := [.int .i64 0, .int .i64 0, .int .i64 0, .int .i64 0, .slice none 0 0]) Tryz.zeroValue37 rfl rfl fun b8 => (sto 2 (cs := [.int .i64 v_0.number, .int .i64 v_0.bound, .int .i64 v_0.height, .int .i64 v_0.width, .slice none 0 0]) Z37 rfl rfl rfl rfl rfl rfl rfl (on (sq (sq (rg (a1 rfl (on ?_)))))))))))
 refine TG.nilRow 7 79 2 ?_
 have hR105 : Rows (RPart) 2 H [] ([] : List Part) := tv
 refine TG.as 7 (z := Own.rows none 0 79 2 [] ([] : List Part)) rfl rfl ?_
 obtain ⟨e311, hl312, hr313⟩ := bd_some hr
 refine jn (fun a w => ∃ (ad314 : Option Addr) (cap315 : Nat) (css316 : List (List Value)) (K317 : Hp), St M W H [K317, K5, H] [(7, Own.rows ad314 cap315 79 2 css316 e311), (2, cel b8 37 [.int .i64 v_0.number, .int .i64 v_0.bound, .int .i64 v_0.height, .int .i64 v_0.width, .slice ad314 e311.length cap315]), (1, cel b7 37 [.int .i64 0, .int .i64 0, .int .i64 0, .int .i64 0, .slice none 0 0])] w ∧ Has [] 68 a [(2, .pointer (some (⟨b7, 0, none⟩))), (3, .pointer (some (⟨b8, 0, none⟩)))] ∧ Rows (RPart) 2 K317 css316 e311) ?_ ?_
 ·refine bk ?_
  refine lp hl312 (fun s319 a w => ∃ (ad320 : Option Addr) (cap321 : Nat) (css322 : List (List Value)) (K323 : Hp), St M W H [K323, K5, H] [(7, Own.rows ad320 cap321 79 2 css322 s319.2), (2, cel b8 37 [.int .i64 v_0.number, .int .i64 v_0.bound, .int .i64 v_0.height, .int .i64 v_0.width, .slice ad320 s319.2.length cap321]), (1, cel b7 37 [.int .i64 0, .int .i64 0, .int .i64 0, .int .i64 0, .slice none 0 0])] w ∧ Has [] 68 a [(1, .pointer (some q4)), (2, .pointer (some (⟨b7, 0, none⟩))), (3, .pointer (some (⟨b8, 0, none⟩))), (4, .int .i64 (s319.1 : Int))] ∧ Rows (RPart) 2 K323 css322 s319.2) ?_ ?_
  ·intro a w hS hA
   exact ⟨none, 0, [], H, hS.selH [1, 0, 1] rfl, hA.cut ⟨rfl, rfl, rfl, rfl, tv⟩, hR105⟩
  ·rintro j s319 y327 hr325 hz326 a w ⟨ad320, cap321, css322, K323, hS, hA, hR324⟩
   refine TG.ap ?_ hS hA
   unfold m14_1 at hr325
   refine sq (sq (rg (m1 rfl (fb 4 U24 rfl rfl rfl rfl Z22 (ld G22 rfl rfl ((sS 1 rfl hK6).drop 4) rfl (lnL U22 rfl rfl (ltI rfl rfl rfl (on ?_))))))))
   refine ci rfl (fun hc331 => ?_) (fun hc331 => ?_)
   ·have hr332 := if_p hc331 hr325
    refine sk (sq (bk (sq (rg (fb 4 U24 rfl rfl rfl rfl Z22 (ld G22 rfl rfl ((sS 1 rfl hK6).drop 4) rfl (m1 rfl ?_)))))))
    obtain ⟨x424, hx425, hr426⟩ := bd_some hr332
    obtain ⟨p427, rfl⟩ := hl3.adr hx425
    obtain ⟨cs428, hcs429, hq430, hr431⟩ := hl3.at hx425
    have hr432 := hr431
    obtain ⟨ad433, cap434, rfl, hl435⟩ := hr431
    have := hl435.len
    refine iaP U22 Z98 rfl rfl rfl rfl (lt_of hx425) (fb 0 U98 rfl rfl rfl rfl Z3 (ld G3 rfl rfl ((sS 2 rfl hq430).take 1) rfl (bu (cs := [.int .i64 x424.day, .slice none 0 0]) T10.B79 rfl rfl rfl (al 3 (cs := [.int .i64 0, .slice none 0 0]) Tryz.zeroValue79 rfl rfl fun b436 => (sto 3 (cs := [.int .i64 x424.day, .slice none 0 0]) Z79 rfl rfl rfl rfl rfl rfl rfl (on (sq (sq (rg (a1 rfl (on ?_)))))))))))
    refine TG.nilRow 5 67 2 (TG.as 5 (z := Own.list none 0 67 2 encParagraph ([] : List Paragraph)) rfl rfl ?_)
    obtain ⟨e503, hl504, hr505⟩ := bd_some hr426
    refine jn (fun a w => ∃ (ad506 : Option Addr) (cap507 : Nat), St M W H [K323, K5, H] [(5, Own.list ad506 cap507 67 2 encParagraph e503), (3, cel b436 79 [.int .i64 x424.day, .slice ad506 e503.length cap507]), (7, Own.rows ad320 cap321 79 2 css322 s319.2), (2, cel b8 37 [.int .i64 v_0.number, .int .i64 v_0.bound, .int .i64 v_0.height, .int .i64 v_0.width, .slice ad320 s319.2.length cap321]), (1, cel b7 37 [.int .i64 0, .int .i64 0, .int .i64 0, .int .i64 0, .slice none 0 0])] w ∧ Has [] 68 a [(1, .pointer (some q4)), (2, .pointer (some (⟨b7, 0, none⟩))), (3, .pointer (some (⟨b8, 0, none⟩))), (4, .int .i64 (s319.1 : Int)), (5, .pointer (some (⟨b436, 0, none⟩)))]) ?_ ?_
    ·refine bk ?_
     refine lp hl504 (fun s508 a w => ∃ (ad509 : Option Addr) (cap510 : Nat), St M W H [K323, K5, H] [(5, Own.list ad509 cap510 67 2 encParagraph s508.2), (3, cel b436 79 [.int .i64 x424.day, .slice ad509 s508.2.length cap510]), (7, Own.rows ad320 cap321 79 2 css322 s319.2), (2, cel b8 37 [.int .i64 v_0.number, .int .i64 v_0.bound, .int .i64 v_0.height, .int .i64 v_0.width, .slice ad320 s319.2.length cap321]), (1, cel b7 37 [.int .i64 0, .int .i64 0, .int .i64 0, .int .i64 0, .slice none 0 0])] w ∧ Has [] 68 a [(1, .pointer (some q4)), (2, .pointer (some (⟨b7, 0, none⟩))), (3, .pointer (some (⟨b8, 0, none⟩))), (4, .int .i64 (s319.1 : Int)), (5, .pointer (some (⟨b436, 0, none⟩))), (6, .int .i64 (s508.1 : Int))]) ?_ ?_
     ·intro a w hS hA
      exact ⟨none, 0, hS, hA.cut ⟨rfl, rfl, rfl, rfl, rfl, rfl, tv⟩⟩
     ·rintro j s508 y513 hr511 hz512 a w ⟨ad509, cap510, hS, hA⟩
      refine TG.ap ?_ hS hA
      unfold m14_2 at hr511
      refine sq (sq (rg (m1 rfl (fb 4 U24 rfl rfl rfl rfl Z22 (ld G22 rfl rfl ((sS 1 rfl hK6).drop 4) rfl (m1 rfl (iaP U22 Z98 rfl rfl rfl rfl (lt_of hx425) (fb 1 U98 rfl rfl rfl rfl Z96 (ld G96 rfl rfl ((sS 2 rfl hq430).drop 1) rfl (lnL U96 rfl rfl (ltI rfl rfl rfl ?_)))))))))))
      refine on ?_
      refine ci rfl (fun hc517 => ?_) (fun hc517 => ?_)
      ·have hr518 := if_p hc517 hr511
       refine sk (sq (bk (sq (rg (fb 4 U24 rfl rfl rfl rfl Z22 (ld G22 rfl rfl ((sS 1 rfl hK6).drop 4) rfl (m1 rfl (iaP U22 Z98 rfl rfl rfl rfl (lt_of hx425) (fb 1 U98 rfl rfl rfl rfl Z96 (ld G96 rfl rfl ((sS 2 rfl hq430).drop 1) rfl (m1 rfl ?_)))))))))))
       obtain ⟨x535, hx536, hr537⟩ := bd_some hr518
       obtain ⟨p538, rfl⟩ := hl435.adr hx536
       obtain ⟨cs539, hcs540, hq541, hr542⟩ := hl435.at hx536
       obtain rfl := hr542
       refine iaP U96 Z50 rfl rfl rfl rfl (lt_of hx536) (ldA G50 Z50 rfl rfl (sS 2 rfl hq541) rfl (va (cs := [.int .i64 x535.anchor, .string (bs x535.text)]) Tryz.zeroValue50 Z50 rfl rfl rfl rfl rfl rfl rfl rfl fun q543 K544 hK545 => (on (rg (fb 1 U79 rfl rfl rfl rfl Z31 (ld G31 rfl rfl ((sO 3 rfl).drop 1) rfl (fb 0 U50 rfl rfl rfl rfl Z3 (ld G3 rfl rfl ((sS 0 rfl hK545).take 1) rfl (fb 1 U50 rfl rfl rfl rfl Z9 (ld G9 rfl rfl ((sS 0 rfl hK545).drop 1) rfl (bu (cs := [.int .i64 x535.anchor, .string (bs x535.text)]) T10.B67 rfl rfl rfl ?_)))))))))))
       obtain ⟨hk546, hr547⟩ := chk_some hr537
       have := lenA s508.2 [x535]
       refine ap1 5 encParagraph (l := s508.2) x535 T10.E31 rfl rfl rfl rfl rfl rfl rfl rfl rfl rfl rfl rfl hk546 fun ad548 cap549 u550 => (fb 1 U79 rfl rfl rfl rfl Z31 (sto 3 (cs := [.slice ad548 ((s508.2 ++ [x535]).length) cap549]) Z31 rfl rfl rfl rfl rfl rfl rfl (on (rg (m1 rfl (adI rfl rfl rfl (by omega) (a1 rfl (on ?_))))))))
       cases hr547
       intro a w hS hA
       exact ⟨_, hz512, ad548, cap549, hS.selH [1, 2, 3] rfl, hA.cut ⟨rfl, rfl, rfl, rfl, rfl, rfl, tv⟩⟩
      ·have hr551 := if_n hc517 hr511
       refine xt rfl ?_
       cases hr551
       obtain rfl := Fin.out hz512
       intro a w hS hA
       exact ⟨ad509, cap510, hS, hA.cut ⟨rfl, rfl, rfl, rfl, rfl, tv⟩⟩
    ·rintro a w ⟨ad506, cap507, hS, hA⟩
     refine TG.ap ?_ hS hA
     refine rg (fb 4 U37 rfl rfl rfl rfl Z35 (ld G35 rfl rfl ((sO 2 rfl).drop 4) rfl (ldA G79 Z79 rfl rfl (sO 3 rfl) rfl (TG.still 5 rfl (fun _ => rfl) fun K552 hl553 => ?_))))
     have := hl553.len
     obtain ⟨hk554, hr555⟩ := chk_some hr505
     have := lenA s319.2 [(⟨x424.day, e503⟩ : Part)]
     refine TG.pack (fun K => Rows (RPart) 2 K (css322 ++ [[.int .i64 x424.day, .slice ad506 e503.length cap507]]) (s319.2 ++ [(⟨x424.day, e503⟩ : Part)])) (fun H le => (hR324.mono (RPart.mono) (le.at 1 rfl)).snoc (cs := [.int .i64 x424.day, .slice ad506 e503.length cap507]) (x := (⟨x424.day, e503⟩ : Part)) rfl rfl ⟨_, _, rfl, (hl553.mono (Flat.mono _) (le.at 0 rfl))⟩) fun K559 hR560 => (ap1R 7 [.int .i64 x424.day, .slice ad506 e503.length cap507] (⟨x424.day, e503⟩ : Part) (l := s319.2) (css := css322) T10.E35 rfl rfl rfl rfl rfl rfl rfl rfl rfl rfl rfl rfl hk554 fun ad556 cap557 u558 => (fb 4 U37 rfl rfl rfl rfl Z35 (sto 2 (cs := [.slice ad556 ((s319.2 ++ [(⟨x424.day, e503⟩ : Part)]).length) cap557]) Z35 rfl rfl rfl rfl rfl rfl rfl (on (rg (m1 rfl (adI rfl rfl rfl (by omega) (a1 rfl (on (TG.del 3 ?_))))))))))
     cases hr555
     intro a w hS hA
     exact ⟨_, hz326, ad556, cap557, (css322 ++ [[Value.int .i64 x424.day, Value.slice ad506 e503.length cap507]]), K559, hS.selH [0, 3, 4] rfl, hA.cut ⟨rfl, rfl, rfl, rfl, tv⟩, hR560⟩
   ·have hr561 := if_n hc331 hr325
    refine xt rfl ?_
    cases hr561
    obtain rfl := Fin.out hz326
    intro a w hS hA
    exact ⟨ad320, cap321, css322, K323, hS, hA.cut ⟨rfl, rfl, tv⟩, hR324⟩
 ·rintro a w ⟨ad314, cap315, css316, K317, hS, hA, hR318⟩
  refine TG.ap ?_ hS hA
  refine sq (rg (ldA G37 Z37 rfl rfl (sO 2 rfl) rfl (sto 1 (cs := [.int .i64 v_0.number, .int .i64 v_0.bound, .int .i64 v_0.height, .int .i64 v_0.width, .slice ad314 e311.length cap315]) Z37 rfl rfl rfl rfl rfl rfl rfl (on (rt_ ?_)))))
  cases hr313
  intro a w hS hA
  refine rc1 hA rfl (ResAt.cell rfl (loadsA G37 Z37 (cell_at (hS.get (t := 1) rfl)) rfl)) ?_
  exact ⟨⟨_, rfl, ⟨_, _, rfl, (hS.rowsOut 7 rfl 0 rfl (RPart.mono) hR318)⟩⟩, hS.ext⟩

theorem w36 {M : Prop} {W : World} {cs_x_0 : List Value} (x_0 : Erratum) (h_x_0 : (Flat encErratum) (hp W) cs_x_0 x_0) {r : Erratum} (hr : m36 x_0 = some r) : Calls Tryz.prog 36 [.agg cs_x_0.toArray].toArray W (RetS M W (.agg (encErratum r).toArray)) := by
 obtain rfl := h_x_0
 unfold m36 at hr
 refine enterG (M := M) Tryz.func36 rfl Tryz.ntmps36 rfl (Hp.le.refl _) ?_
 refine sq (rg (bI (cs := [.int .i64 x_0.number, .int .i64 x_0.day, .int .u8 x_0.kind, .int .i64 x_0.anchor, .string (bs x_0.text), .int .i64 x_0.new_]) rfl rfl rfl fun q1 K2 hK3 => (al 1 (cs := [.int .i64 0, .int .i64 0, .int .u8 0, .int .i64 0, .string (bs []), .int .i64 0]) Tryz.zeroValue77 rfl rfl fun b4 => (on (sq (rg (fb 0 U27 rfl rfl rfl rfl Z3 (ld G3 rfl rfl ((sS 0 rfl hK3).take 1) rfl (fb 1 U27 rfl rfl rfl rfl Z3 (ld G3 rfl rfl (((sS 0 rfl hK3).drop 1).take 1) rfl (fb 2 U27 rfl rfl rfl rfl Z5 ?_)))))))))))
 refine ld G5 rfl rfl (((sS 0 rfl hK3).drop 2).take 1) rfl (fb 3 U27 rfl rfl rfl rfl Z3 (ld G3 rfl rfl (((sS 0 rfl hK3).drop 3).take 1) rfl (fb 4 U27 rfl rfl rfl rfl Z9 (ld G9 rfl rfl (((sS 0 rfl hK3).drop 4).take 1) rfl (fb 5 U27 rfl rfl rfl rfl Z3 (ld G3 rfl rfl ((sS 0 rfl hK3).drop 5) rfl (bu (cs := [.int .i64 x_0.number, .int .i64 x_0.day, .int .u8 x_0.kind, .int .i64 x_0.anchor, .string (bs x_0.text), .int .i64 x_0.new_]) T10.B77 rfl rfl rfl (sto 1 (cs := [.int .i64 x_0.number, .int .i64 x_0.day, .int .u8 x_0.kind, .int .i64 x_0.anchor, .string (bs x_0.text), .int .i64 x_0.new_]) Z77 rfl rfl rfl rfl rfl rfl rfl (on (rt_ ?_))))))))))
 obtain rfl := sj hr
 intro a w hS hA
 refine rc1 hA rfl (ResAt.cell rfl (loadsA G77 Z77 (cell_at (hS.get (t := 1) rfl)) rfl)) ?_
 exact ⟨rfl, hS.ext⟩

theorem w15 {M : Prop} {W : World} {H : Hp} (hH : H.le (hp W)) {ad_l_0 : Option Addr} {cap_l_0 : Nat} {l_0 : List Erratum} (h_l_0 : Sl (Flat encErratum) 6 H ad_l_0 cap_l_0 l_0) {r : List Erratum} (hr : m15 l_0 = some r) : Calls Tryz.prog 15 [.slice ad_l_0 l_0.length cap_l_0].toArray W (RetK M H W (fun v K => ∃ (ad0 : Option Addr) (cap0 : Nat), v = .slice ad0 r.length cap0 ∧ Sl (Flat encErratum) 6 K ad0 cap0 r)) := by
 have := h_l_0.len
 unfold m15 at hr
 refine enterG (M := M) Tryz.func15 rfl Tryz.ntmps15 rfl hH ?_
 refine sq (rg (a1 rfl (on (sq (rg (a1 rfl (on (sq (sq (rg (a1 rfl ?_)))))))))))
 refine on (TG.nilRow 2 77 6 (TG.as 2 (z := Own.list none 0 77 6 encErratum ([] : List Erratum)) rfl rfl ?_))
 obtain ⟨e67, hl68, hr69⟩ := bd_some hr
 refine jn (fun a w => ∃ (ad70 : Option Addr) (cap71 : Nat), St M W H [H] [(2, Own.list ad70 cap71 77 6 encErratum e67)] w ∧ Has [] 20 a [(3, .slice ad70 e67.length cap71)]) ?_ ?_
 ·refine bk ?_
  refine lp hl68 (fun s72 a w => ∃ (ad73 : Option Addr) (cap74 : Nat), St M W H [H] [(2, Own.list ad73 cap74 77 6 encErratum s72.2)] w ∧ Has [] 20 a [(0, .slice ad_l_0 l_0.length cap_l_0), (3, .slice ad73 s72.2.length cap74), (4, .int .i64 (s72.1 : Int))]) ?_ ?_
  ·intro a w hS hA
   exact ⟨none, 0, hS, hA.cut ⟨rfl, rfl, rfl, tv⟩⟩
  ·rintro j s72 y77 hr75 hz76 a w ⟨ad73, cap74, hS, hA⟩
   refine TG.ap ?_ hS hA
   unfold m15_1 at hr75
   refine sq (sq (rg (m1 rfl (m1 rfl (lnL U25 rfl rfl (ltI rfl rfl rfl (on ?_)))))))
   refine ci rfl (fun hc81 => ?_) (fun hc81 => ?_)
   ·have hr82 := if_p hc81 hr75
    refine sk (sq (bk (rg (m1 rfl (m1 rfl (m1 rfl ?_))))))
    obtain ⟨x99, hx100, hr101⟩ := bd_some hr82
    obtain ⟨p102, rfl⟩ := h_l_0.adr hx100
    obtain ⟨cs103, hcs104, hq105, hr106⟩ := h_l_0.at hx100
    obtain rfl := hr106
    refine iaP U25 Z27 rfl rfl rfl rfl (lt_of hx100) (ldA G27 Z27 rfl rfl (sS 0 rfl hq105) rfl ?_)
    obtain ⟨r107, hx108, hr109⟩ := bd_some hr101
    refine clS C36 rfl rfl rfl rfl (fun w H hH le => w36 x99 rfl hx108) ?_
    obtain ⟨hk110, hr111⟩ := chk_some hr109
    have := lenA s72.2 [r107]
    refine ap1 2 encErratum (l := s72.2) r107 T10.E39 rfl rfl rfl rfl rfl rfl rfl rfl rfl rfl rfl rfl hk110 fun ad112 cap113 u114 => (a1 rfl (on (rg (m1 rfl (adI rfl rfl rfl (by omega) (a1 rfl (on ?_)))))))
    cases hr111
    intro a w hS hA
    exact ⟨_, hz76, ad112, cap113, hS, hA.cut ⟨rfl, rfl, rfl, tv⟩⟩
   ·have hr115 := if_n hc81 hr75
    refine xt rfl ?_
    cases hr115
    obtain rfl := Fin.out hz76
    intro a w hS hA
    exact ⟨ad73, cap74, hS, hA.cut ⟨rfl, tv⟩⟩
 ·rintro a w ⟨ad70, cap71, hS, hA⟩
  refine TG.ap ?_ hS hA
  refine sq (rg (m1 rfl (a1 rfl (on (rt_ ?_)))))
  cases hr69
  intro a w hS hA
  refine ret1 hA rfl rfl ?_
  exact ⟨⟨_, _, rfl, (hS.listOut 2 rfl (fun _ => rfl))⟩, hS.ext⟩

theorem w3 {M : Prop} {W : World} {H : Hp} (hH : H.le (hp W)) (hg : Gv M H) {cs_v_0 : List Value} (v_0 : Volume) (h_v_0 : (RVolume) H cs_v_0 v_0) {ad_errata : Option Addr} {cap_errata : Nat} {errata : List Erratum} (h_errata : Sl (Flat encErratum) 6 H ad_errata cap_errata errata) {cs_more : List Value} (more : Erratum) (h_more : (Flat encErratum) H cs_more more) (day : Int) {r : Bool} (hr : m3 v_0 errata more day = some r) : Calls Tryz.prog 3 [.agg cs_v_0.toArray, .slice ad_errata errata.length cap_errata, .agg cs_more.toArray, .int .u16 day].toArray W (RetS M W (.bool r)) := by
 have hh_v_0 := h_v_0
 obtain ⟨ad1, cap2, rfl, hl3⟩ := h_v_0
 have := hl3.len
 have := h_errata.len
 obtain rfl := h_more
 unfold m3 at hr
 refine enterG (M := M) Tryz.func3 rfl Tryz.ntmps3 rfl hH ?_
 refine sq (rg (bI (cs := [.int .i64 v_0.number, .int .i64 v_0.bound, .int .i64 v_0.height, .int .i64 v_0.width, .slice ad1 v_0.parts.length cap2]) rfl rfl rfl fun q4 K5 hK6 => (bI (cs := [.int .i64 more.number, .int .i64 more.day, .int .u8 more.kind, .int .i64 more.anchor, .string (bs more.text), .int .i64 more.new_]) rfl rfl rfl fun q7 K8 hK9 => (a1 rfl (on (sq ?_))))))
 obtain ⟨hk11, hr12⟩ := chk_some hr
 have := lenA ([] : List Erratum) errata
 refine drG3 5 [0, 2] [] mixed (fun _ _ _ _ _ h => h) (by kernel_rfl) (by kernel_rfl) (by kernel_rfl) rfl (by kernel_rfl) (.nil) (DC.turn (α := Nat) 0 (fun b10 => .slice (some ⟨b10, 0, none⟩) (([] : List Erratum).length) 0) (fun _ _ => True) (fun b10 => [(1, Own.list (some ⟨b10, 0, none⟩) 0 27 6 encErratum ([] : List Erratum))]) rfl (fun _ _ _ _ h => h) (by kernel_rfl) rfl rfl (fun a w K hS hA hF => TG.pa hS hA (bSL 1 encErratum ([] : List Erratum) (cs := []) T10.E25 rfl rfl rfl rfl rfl rfl fun b10 => finT (f := fun b10 => .slice (some ⟨b10, 0, none⟩) (([] : List Erratum).length) 0) (G := fun _ _ => True) (σ1 := fun b10 => [(1, Own.list (some ⟨b10, 0, none⟩) 0 27 6 encErratum ([] : List Erratum))]) b10 tv)) fun b10 => (DC.det (fun τ => τ = [(1, Own.list (some ⟨b10, 0, none⟩) 0 27 6 encErratum ([] : List Erratum))] ∨ τ = []) rfl (.inl rfl) (by kernel_rfl) ⟨.inl (.inr (rfl)), tv⟩ rfl rfl (fun τ hτ a w K hS hA hF => by rcases hτ with rfl | rfl <;> exact TG.pa hS hA (m1 rfl fin1)) (DC.turn (α := Option Addr × Nat) (none, 0) (fun q => .slice q.1 ((([] : List Erratum) ++ errata).length) q.2) (fun _ _ => True) (fun q => [(1, Own.list q.1 q.2 27 6 encErratum (([] : List Erratum) ++ errata))]) rfl (fun _ _ _ _ h => h) (by kernel_rfl) rfl rfl (fun a w K hS hA hF => TG.pa hS hA (apSW 1 (enc := encErratum) (l := ([] : List Erratum)) (m := errata) T10.E25 rfl rfl rfl rfl rfl rfl h_errata 3 rfl (fun _ => rfl) (fun _ => rfl) rfl hk11 fun ad13 cap14 => finT (f := fun q => .slice q.1 ((([] : List Erratum) ++ errata).length) q.2) (G := fun _ _ => True) (σ1 := fun q => [(1, Own.list q.1 q.2 27 6 encErratum (([] : List Erratum) ++ errata))]) (_, _) tv)) ?_)))
 rintro ⟨ad13, cap14⟩
 refine DC.det (fun τ => τ = [(1, Own.list ad13 cap14 27 6 encErratum (([] : List Erratum) ++ errata))] ∨ τ = [] ∨ τ = [(1, Own.list (some ⟨b10, 0, none⟩) 0 27 6 encErratum ([] : List Erratum))]) rfl (.inl rfl) (by kernel_rfl) ⟨.inl (.inr (.inr (rfl))), .inl (.inr (.inl rfl)), tv⟩ rfl rfl (fun τ hτ a w K hS hA hF => by rcases hτ with rfl | rfl | rfl <;> exact TG.pa hS hA (ldA G27 Z27 rfl rfl (sS 1 rfl hK9) rfl fin1)) ?_
 refine DC.und (α := Option Addr × Nat) (none, 0) (fun q => .slice q.1 1 q.2) (fun (q : Option Addr × Nat) K => Sl (Flat encErratum) 6 K q.1 q.2 ([more] : List Erratum)) (fun τ => τ = [(1, Own.list ad13 cap14 27 6 encErratum (([] : List Erratum) ++ errata))] ∨ τ = [] ∨ τ = [(1, Own.list (some ⟨b10, 0, none⟩) 0 27 6 encErratum ([] : List Erratum))]) rfl (.inl rfl) (by kernel_rfl) ⟨.inl (.inr (.inr (rfl))), .inl (.inr (.inl rfl)), tv⟩ (fun _ _ _ h x => x.mono (Flat.mono _) h) (by kernel_rfl) rfl rfl (fun τ hτ a w K hS hA hF => by rcases hτ with rfl | rfl | rfl <;> exact TG.pa hS hA (bS (cs := [.int .i64 more.number, .int .i64 more.day, .int .u8 more.kind, .int .i64 more.anchor, .string (bs more.text), .int .i64 more.new_]) T10.E25 rfl rfl rfl rfl fun q15 K16 hq17 hK18 => by
   have hl19 : Sl (Flat encErratum) 6 K16 (some q15) 1 ([more] : List Erratum) := Sl.litR (css := [[.int .i64 more.number, .int .i64 more.day, .int .u8 more.kind, .int .i64 more.anchor, .string (bs more.text), .int .i64 more.new_]]) (l := ([more] : List Erratum)) ⟨⟨rfl, rfl, rfl⟩, tv⟩ hq17 hK18 rfl
   have := hl19.len
   exact finU (f := fun q => .slice q.1 1 q.2) (G := (fun (q : Option Addr × Nat) K => Sl (Flat encErratum) 6 K q.1 q.2 ([more] : List Erratum))) (_, _) (fun _ _ _ h x => x.mono (Flat.mono _) h) hl19)) ?_
 rintro ⟨ad21, cap22⟩
 refine DC.nil fun K23 hF => ?_
 obtain ⟨hu20, _, _, _⟩ := hF
 have := hu20.len
 obtain ⟨hk24, hr25⟩ := chk_some hr12
 have := lenA (([] : List Erratum) ++ errata) ([more] : List Erratum)
 refine apSW 1 (enc := encErratum) (l := (([] : List Erratum) ++ errata)) (m := ([more] : List Erratum)) T10.E25 rfl rfl rfl rfl rfl rfl hu20 0 rfl (fun _ => rfl) (fun _ => rfl) rfl hk24 fun ad26 cap27 => (a1 rfl (on (sq (sq ?_))))
 obtain ⟨t37, hx38, hr39⟩ := bd_some hr25
 refine jn (fun a w => St M W H [K23, K8, K5, H] [(1, Own.list ad26 cap27 27 6 encErratum ((([] : List Erratum) ++ errata) ++ ([more] : List Erratum)))] w ∧ Has [] 108 a [(1, .slice ad_errata errata.length cap_errata), (3, .int .u16 day), (4, .pointer (some q4)), (6, .pointer (some q7)), (9, .slice ad26 (((([] : List Erratum) ++ errata) ++ ([more] : List Erratum)).length) cap27), (34, .bool t37)]) ?_ ?_
 ·refine rg (ldA G24 Z24 rfl rfl (sS 2 rfl hK6) rfl (m1 rfl ?_))
  obtain ⟨r40, hx41, hr42⟩ := bd_some hx38
  refine clS C11 rfl rfl rfl rfl (fun w H hH le => w11 hH v_0 (RVolume.mono _ _ _ _ (le.at 3 rfl) hh_v_0) (h_errata.mono (Flat.mono _) (le.at 3 rfl)) hx41) (nt rfl rfl (m1 rfl ?_))
  rcases Bool.eq_false_or_eq_true (r40) with hb43 | hb43
  ·have hr44 := if_p hb43 hr42
   refine gN rfl rfl (congrArg not (hb43)) (ldA G24 Z24 rfl rfl (sS 2 rfl hK6) rfl (gN rfl rfl (congrArg not (hb43)) (m1 rfl (gN rfl rfl (congrArg not (hb43)) ?_))))
   obtain ⟨r45, hx46, hr47⟩ := bd_some hr44
   refine clL C11 rfl rfl rfl rfl (fun w hS => w11 (Hp.le.refl (hp w)) v_0 (RVolume.mono _ _ _ _ (hS.hp 3 rfl) hh_v_0) (list_sl (H := hp w) (enc := encErratum) (size := 6) (ad := ad26) (cap := cap27) (el := 27) (l := ((([] : List Erratum) ++ errata) ++ ([more] : List Erratum))) (fun _ => rfl) (hS.get (t := 1) rfl) (fun _ _ _ ho => ho)) hx46) (gN rfl rfl (congrArg not (hb43)) (nt rfl rfl (pF rfl rfl (congrArg not (hb43)) rfl (on ?_))))
   cases hr47
   exact cu ⟨rfl, rfl, rfl, rfl, rfl, rfl, tv⟩
  ·have hr48 := if_f hb43 hr42
   refine gF rfl rfl (congrArg not (hb43)) rfl (gF rfl rfl (congrArg not (hb43)) rfl (gF rfl rfl (congrArg not (hb43)) rfl (gF rfl rfl (congrArg not (hb43)) rfl (pT rfl rfl (congrArg not (hb43)) rfl (on ?_)))))
   cases hr48
   exact cu ⟨rfl, rfl, rfl, rfl, rfl, rfl, tv⟩
 ·rintro a w ⟨hS, hA⟩
  refine TG.ap ?_ hS hA
  refine cb rfl (fun hc55 => ?_) (fun hc55 => ?_)
  ·have hr56 := if_p hc55 hr39
   refine sq (rg ?_)
   obtain ⟨r57, hx58, hr59⟩ := bd_some hr56
   refine clS C12 rfl rfl rfl rfl (fun w H hH le => w12 hH (hg.mono (le.at 3 rfl))  hx58) (a1 rfl (on (rt_ ?_)))
   cases hr59
   intro a w hS hA
   refine ret1 hA rfl rfl ?_
   exact ⟨rfl, hS.ext⟩
  ·have hr60 := if_f hc55 hr39
   refine sk (sq (rg (m1 rfl ?_)))
   obtain ⟨hk61, hr62⟩ := chk_some hr60
   refine cvI U28 U3 rfl rfl (wr_i64 hk61) (a1 rfl (on (sq (sq (rg (m1 rfl (fb 1 U27 rfl rfl rfl rfl Z3 (ld G3 rfl rfl (((sS 1 rfl hK9).drop 1).take 1) rfl (ltI rfl rfl rfl (on ?_))))))))))
   obtain ⟨t126, hx127, hr128⟩ := bd_some hr62
   refine jn (fun a w => ∃ t129, t126 = .inl t129 ∧ ∃ (ad130 : Option Addr) (cap131 : Nat) (K132 : Hp), St M W H [K132, K23, K8, K5, H] [] w ∧ Has [] 108 a [(1, .slice ad_errata errata.length cap_errata), (4, .pointer (some q4)), (6, .pointer (some q7)), (9, .slice ad130 t129.length cap131)] ∧ Sl (Flat encErratum) 6 K132 ad130 cap131 t129) ?_ ?_
   ·refine ci rfl (fun hc134 => ?_) (fun hc134 => ?_)
    ·have hr135 := if_p hc134 hx127
     refine sq (rg (ldA G24 Z24 rfl rfl (sS 2 rfl hK6) rfl ?_))
     obtain ⟨r136, hx137, hr138⟩ := bd_some hr135
     refine clK C14 rfl rfl rfl rfl (fun w H hH le => w14 hH v_0 (RVolume.mono _ _ _ _ (le.at 3 rfl) hh_v_0) hx137) ?_
     rintro v_ K139 ⟨cs140, rfl, hr141⟩
     have hr142 := hr141
     obtain ⟨ad143, cap144, rfl, hl145⟩ := hr141
     have := hl145.len
     refine m1 rfl ?_
     obtain ⟨r146, hx147, hr148⟩ := bd_some hr138
     refine clK C15 rfl rfl rfl rfl (fun w H hH le => w15 hH (h_errata.mono (Flat.mono _) (le.at 4 rfl)) hx147) ?_
     rintro v_ K149 ⟨ad150, cap151, rfl, hl152⟩
     have := hl152.len
     refine m1 rfl ?_
     obtain ⟨r153, hx154, hr155⟩ := bd_some hr148
     refine clK C13 rfl rfl rfl rfl (fun w H hH le => w13 hH r136 (RVolume.mono _ _ _ _ (le.at 1 rfl) hr142) (hl152.mono (Flat.mono _) (le.at 0 rfl)) day hx154) ?_
     rintro v_ K156 ⟨ad157, cap158, rfl, hl159⟩
     have := hl159.len
     refine m1 rfl (ex rfl rfl rfl (ex rfl rfl rfl (a1 rfl (a1 rfl (on (sq (rg (ldA G24 Z24 rfl rfl (sS 5 rfl hK6) rfl (clK C14 rfl rfl rfl rfl (fun w H hH le => w14 hH v_0 (RVolume.mono _ _ _ _ (le.at 6 rfl) hh_v_0) hx137) ?_)))))))))
     rintro v_ K160 ⟨cs161, rfl, hr162⟩
     have hr163 := hr162
     obtain ⟨ad164, cap165, rfl, hl166⟩ := hr162
     have := hl166.len
     refine m1 rfl (TG.still 1 rfl (fun _ => rfl) fun K167 hl168 => ?_)
     have := hl168.len
     obtain ⟨r169, hx170, hr171⟩ := bd_some hr155
     refine clK C15 rfl rfl rfl rfl (fun w H hH le => w15 hH (hl168.mono (Flat.mono _) (le.at 0 rfl)) hx170) ?_
     rintro v_ K172 ⟨ad173, cap174, rfl, hl175⟩
     have := hl175.len
     refine m1 rfl ?_
     obtain ⟨r176, hx177, hr178⟩ := bd_some hr171
     refine clK C13 rfl rfl rfl rfl (fun w H hH le => w13 hH r136 (RVolume.mono _ _ _ _ (le.at 2 rfl) hr163) (hl175.mono (Flat.mono _) (le.at 0 rfl)) day hx177) ?_
     rintro v_ K179 ⟨ad180, cap181, rfl, hl182⟩
     have := hl182.len
     refine m1 rfl (ex rfl rfl rfl (ex rfl rfl rfl (a1 rfl (a1 rfl (on (sq ?_))))))
     obtain ⟨t192, hx193, hr194⟩ := bd_some hr178
     refine jn (fun a w => St M W H [K179, K172, K167, K160, K156, K149, K139, K23, K8, K5, H] [] w ∧ Has [] 108 a [(1, .slice ad_errata errata.length cap_errata), (4, .pointer (some q4)), (6, .pointer (some q7)), (9, .slice ad26 (((([] : List Erratum) ++ errata) ++ ([more] : List Erratum)).length) cap27), (71, .bool t192)]) ?_ ?_
     ·refine rg (m1 rfl (neI rfl rfl rfl (m1 rfl ?_)))
      by_cases hb195 : r153.2 ≠ 0
      ·have hr196 := if_p hb195 hx193
       refine gf' hb195 rfl (gf' hb195 rfl (pt hb195 rfl rfl (m1 rfl (gF rfl rfl rfl rfl (gF rfl rfl rfl rfl (gF rfl rfl rfl rfl (gF rfl rfl rfl rfl (pT rfl rfl rfl rfl (on ?_)))))))))
       cases hr196
       exact cu ⟨rfl, rfl, rfl, rfl, rfl, tv⟩
      ·have hr197 := if_n hb195 hx193
       refine gt' hb195 rfl (m1 rfl (gt' hb195 rfl (neI rfl rfl rfl (pf hb195 rfl rfl (m1 rfl ?_)))))
       by_cases hb198 : r176.2 ≠ 0
       ·have hr199 := if_p hb198 hr197
        refine gf' hb198 rfl (gf' hb198 rfl (gf' hb198 rfl (gf' hb198 rfl (pt hb198 rfl rfl (on ?_)))))
        cases hr199
        exact cu ⟨rfl, rfl, rfl, rfl, rfl, tv⟩
       ·have hr200 := if_n hb198 hr197
        refine gt' hb198 rfl (m1 rfl (gt' hb198 rfl (m1 rfl (gt' hb198 rfl ?_))))
        obtain ⟨r201, hx202, hr203⟩ := bd_some hr200
        refine clS C16 rfl rfl rfl rfl (fun w H hH le => w16 hH (hl159.mono (Flat.mono _) (le.at 4 rfl)) (hl182.mono (Flat.mono _) (le.at 0 rfl)) hx202) (gt' hb198 rfl (nt rfl rfl (pf hb198 rfl rfl (on ?_))))
        cases hr203
        exact cu ⟨rfl, rfl, rfl, rfl, rfl, tv⟩
     ·rintro a w ⟨hS, hA⟩
      refine TG.ap ?_ hS hA
      refine cb rfl (fun hc207 => ?_) (fun hc207 => ?_)
      ·have hr208 := if_p hc207 hr194
       refine sq (rg (a1 rfl (on (rt_ ?_))))
       cases hr208
       cases hr128
       intro a w hS hA
       refine ret1 hA rfl rfl ?_
       exact ⟨rfl, hS.ext⟩
      ·have hr209 := if_f hc207 hr194
       refine sk ?_
       cases hr209
       intro a w hS hA
       exact ⟨_, rfl, ad26, cap27, K167, hS.selH [2, 7, 8, 9, 10] rfl, hA.cut ⟨rfl, rfl, rfl, rfl, tv⟩, hl168⟩
    ·have hr210 := if_n hc134 hx127
     refine sk (TG.still 1 rfl (fun _ => rfl) fun K211 hl212 => ?_)
     have := hl212.len
     cases hr210
     intro a w hS hA
     exact ⟨_, rfl, ad26, cap27, K211, hS, hA.cut ⟨rfl, rfl, rfl, rfl, tv⟩, hl212⟩
   ·rintro a w ⟨t129, rfl, ad130, cap131, K132, hS, hA, hl133⟩
    refine TG.ap ?_ hS hA
    have := hl133.len
    refine sq (sq (rg (fb 1 U27 rfl rfl rfl rfl Z3 (ld G3 rfl rfl (((sS 2 rfl hK9).drop 1).take 1) rfl (fb 1 U24 rfl rfl rfl rfl Z3 (ld G3 rfl rfl (((sS 3 rfl hK6).drop 1).take 1) rfl (leI rfl rfl rfl (on ?_))))))))
    refine ci rfl (fun hc219 => ?_) (fun hc219 => ?_)
    ·have hr220 := if_p hc219 hr128
     refine sq (rg ?_)
     obtain ⟨r221, hx222, hr223⟩ := bd_some hr220
     refine clS C12 rfl rfl rfl rfl (fun w H hH le => w12 hH (hg.mono (le.at 4 rfl))  hx222) (a1 rfl (on (rt_ ?_)))
     cases hr223
     intro a w hS hA
     refine ret1 hA rfl rfl ?_
     exact ⟨rfl, hS.ext⟩
    ·have hr224 := if_n hc219 hr128
     refine sk (sq (rg (ldA G24 Z24 rfl rfl (sS 3 rfl hK6) rfl ?_)))
     obtain ⟨r225, hx226, hr227⟩ := bd_some hr224
     refine clK C14 rfl rfl rfl rfl (fun w H hH le => w14 hH v_0 (RVolume.mono _ _ _ _ (le.at 4 rfl) hh_v_0) hx226) ?_
     rintro v_ K228 ⟨cs229, rfl, hr230⟩
     have hr231 := hr230
     obtain ⟨ad232, cap233, rfl, hl234⟩ := hr230
     have := hl234.len
     refine m1 rfl ?_
     obtain ⟨r235, hx236, hr237⟩ := bd_some hr227
     refine clK C15 rfl rfl rfl rfl (fun w H hH le => w15 hH (h_errata.mono (Flat.mono _) (le.at 5 rfl)) hx236) ?_
     rintro v_ K238 ⟨ad239, cap240, rfl, hl241⟩
     have := hl241.len
     obtain ⟨r242, hx243, hr244⟩ := bd_some hr237
     refine clK C17 rfl rfl rfl rfl (fun w H hH le => w17 hH r225 (RVolume.mono _ _ _ _ (le.at 1 rfl) hr231) (hl241.mono (Flat.mono _) (le.at 0 rfl)) hx243) ?_
     rintro v_ K245 ⟨ad246, cap247, rfl, hl248⟩
     have := hl248.len
     refine m1 rfl (ex rfl rfl rfl (ex rfl rfl rfl (a1 rfl (a1 rfl (on (sq (rg (ldA G24 Z24 rfl rfl (sS 6 rfl hK6) rfl (clK C14 rfl rfl rfl rfl (fun w H hH le => w14 hH v_0 (RVolume.mono _ _ _ _ (le.at 7 rfl) hh_v_0) hx226) ?_)))))))))
     rintro v_ K249 ⟨cs250, rfl, hr251⟩
     have hr252 := hr251
     obtain ⟨ad253, cap254, rfl, hl255⟩ := hr251
     have := hl255.len
     refine m1 rfl ?_
     obtain ⟨r256, hx257, hr258⟩ := bd_some hr244
     refine clK C15 rfl rfl rfl rfl (fun w H hH le => w15 hH (hl133.mono (Flat.mono _) (le.at 4 rfl)) hx257) ?_
     rintro v_ K259 ⟨ad260, cap261, rfl, hl262⟩
     have := hl262.len
     obtain ⟨r263, hx264, hr265⟩ := bd_some hr258
     refine clK C17 rfl rfl rfl rfl (fun w H hH le => w17 hH r225 (RVolume.mono _ _ _ _ (le.at 1 rfl) hr252) (hl262.mono (Flat.mono _) (le.at 0 rfl)) hx264) ?_
     rintro v_ K266 ⟨ad267, cap268, rfl, hl269⟩
     have := hl269.len
     refine m1 rfl (ex rfl rfl rfl (ex rfl rfl rfl (a1 rfl (a1 rfl (on (sq ?_))))))
     obtain ⟨t285, hx286, hr287⟩ := bd_some hr265
     refine jn (fun a w => St M W H [K266, K259, K249, K245, K238, K228, K132, K23, K8, K5, H] [] w ∧ Has [] 108 a [(8, .bool t285)]) ?_ ?_
     ·refine rg (m1 rfl (eqI rfl rfl rfl (m1 rfl ?_)))
      by_cases hb288 : r242.2 = 0
      ·have hr289 := if_p hb288 hx286
       refine gt hb288 rfl (m1 rfl (gt hb288 rfl (eqI rfl rfl rfl (pt hb288 rfl rfl (m1 rfl ?_)))))
       by_cases hb290 : r263.2 = 0
       ·have hr291 := if_p hb290 hr289
        refine gt hb290 rfl (m1 rfl (gt hb290 rfl (m1 rfl (gt hb290 rfl ?_))))
        obtain ⟨r292, hx293, hr294⟩ := bd_some hr291
        refine clS C18 rfl rfl rfl rfl (fun w H hH le => w18 hH (hl248.mono (Flat.mono _) (le.at 3 rfl)) (hl269.mono (Flat.mono _) (le.at 0 rfl)) hx293) (pt hb290 rfl rfl (m1 rfl ?_))
        rcases Bool.eq_false_or_eq_true (r292) with hb295 | hb295
        ·have hr296 := if_p hb295 hr294
         refine gN rfl rfl (hb295) ?_
         obtain ⟨r297, hx298, hr299⟩ := bd_some hr296
         refine clS C12 rfl rfl rfl rfl (fun w H hH le => w12 hH (hg.mono (le.at 10 rfl))  hx298) (pT rfl rfl (hb295) rfl (a1 rfl (on ?_)))
         cases hr299
         exact cu ⟨rfl, tv⟩
        ·have hr300 := if_f hb295 hr294
         refine gF rfl rfl (hb295) rfl (pF rfl rfl (hb295) rfl (a1 rfl (on ?_)))
         cases hr300
         exact cu ⟨rfl, tv⟩
       ·have hr301 := if_n hb290 hr289
        refine gf hb290 rfl (gf hb290 rfl (gf hb290 rfl (pf hb290 rfl rfl (m1 rfl (gF rfl rfl rfl rfl (pF rfl rfl rfl rfl (a1 rfl (on ?_))))))))
        cases hr301
        exact cu ⟨rfl, tv⟩
      ·have hr302 := if_n hb288 hx286
       refine gf hb288 rfl (gf hb288 rfl (pf hb288 rfl rfl (m1 rfl (gF rfl rfl rfl rfl (gF rfl rfl rfl rfl (gF rfl rfl rfl rfl (pF rfl rfl rfl rfl (m1 rfl (gF rfl rfl rfl rfl (pF rfl rfl rfl rfl (a1 rfl ?_)))))))))))
       refine on ?_
       cases hr302
       exact cu ⟨rfl, tv⟩
     ·rintro a w ⟨hS, hA⟩
      refine TG.ap ?_ hS hA
      refine rt_ ?_
      cases hr287
      intro a w hS hA
      refine ret1 hA rfl rfl ?_
      exact ⟨rfl, hS.ext⟩

end T10
