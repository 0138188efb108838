/-
 Walks of functions of a volume and an index: each call comes to what the model says. Printed by a program of ours.
-/
import Derived.Test.YtjehjogdlamghaaGreatDoorWalkA
set_option linter.all false
set_option maxHeartbeats 4000000
namespace T10
open Go Go.Proofs Pk
theorem w35 {M : Prop} {W : World} {H : Hp} (hH : H.le (hp W)) {cs_v_0 : List Value} (v_0 : Volume) (h_v_0 : (RVolume) H cs_v_0 v_0) {ad_errata : Option Addr} {cap_errata : Nat} {errata : List Erratum} (h_errata : Sl (Flat encErratum) 6 H ad_errata cap_errata errata) (to_2 : Int) {r : edition} (hr : m35 v_0 errata to_2 = some r) : Calls Tryz.prog 35 [.agg cs_v_0.toArray, .slice ad_errata errata.length cap_errata, .int .i64 to_2].toArray W (RetK M H W (fun v K => ∃ (u0 : Addr) (cs0 : List Value), v = .pointer (some u0) ∧ CellsAt K u0 cs0 ∧ (Redition) K cs0 r)) := by
 have hh_v_0 := h_v_0
 obtain ⟨ad1, cap2, rfl, hl3⟩ := h_v_0
 have := hl3.len
 have := h_errata.len
 unfold m35 at hr
 refine enterGM (M := M) Tryz.func35 rfl Tryz.ntmps35 rfl hH ?_
 refine sq (rg (bI (cs := [.int .i64 v_0.number, .int .i64 v_0.bound, .int .i64 v_0.height, .int .i64 v_0.width, .slice ad1 v_0.parts.length cap2]) rfl rfl rfl fun q4 K5 hK6 => (a1 rfl (on (sq (rg (ldA G42 Z42 rfl rfl (sS 0 rfl hK6) rfl (bu (cs := [.int .i64 v_0.number, .int .i64 v_0.bound, .int .i64 v_0.height, .int .i64 v_0.width, .slice ad1 v_0.parts.length cap2, .slice none 0 0]) T10.B110 rfl rfl rfl (bO 1 rfl rfl rfl fun b7 => (va (cs := [.pointer (some (⟨b7, 0, none⟩))]) Tryz.zeroValue111 Z111 rfl rfl rfl rfl rfl rfl rfl rfl fun q8 K9 hK10 => (on ?_)))))))))))
 refine sq (sq (rg (fb 4 U42 rfl rfl rfl rfl Z40 (ld G40 rfl rfl ((sS 1 rfl hK6).drop 4) rfl (lnL U40 rfl rfl (m1 rfl (on (TG.nilRow 5 113 1 (TG.as 5 (z := Own.list none 0 113 1 encV ([] : List Hd)) rfl rfl (TG.gopen (σ := [(5, Own.list none 0 113 1 encV ([] : List Hd)), (1, cel b7 110 [.int .i64 v_0.number, .int .i64 v_0.bound, .int .i64 v_0.height, .int .i64 v_0.width, .slice ad1 v_0.parts.length cap2, .slice none 0 0])]) 115 3 encentry 1000 0 ?_))))))))))
 have hG114 := Grid.none entry
 obtain ⟨e437, hl438, hr439⟩ := bd_some hr
 refine jn (fun a w => ∃ (hd440 : List Hd) (as441 : List Adr) (ad444 : Option Addr) (cap445 : Nat), St M W H [K9, K5, H] ([(5, Own.list ad444 cap445 113 1 encV hd440), (1, cel b7 110 [.int .i64 v_0.number, .int .i64 v_0.bound, .int .i64 v_0.height, .int .i64 v_0.width, .slice ad1 v_0.parts.length cap2, .slice ad444 hd440.length cap445])] ++ grp 115 3 encentry 1000 as441 e437) w ∧ Has [] 76 a [(1, .slice ad_errata errata.length cap_errata), (2, .int .i64 to_2), (7, .pointer (some q8))] ∧ Grid hd440 as441 e437) ?_ ?_
 ·refine bk ?_
  refine lp hl438 (fun s446 a w => ∃ (hd447 : List Hd) (as448 : List Adr) (ad451 : Option Addr) (cap452 : Nat), St M W H [K9, K5, H] ([(5, Own.list ad451 cap452 113 1 encV hd447), (1, cel b7 110 [.int .i64 v_0.number, .int .i64 v_0.bound, .int .i64 v_0.height, .int .i64 v_0.width, .slice ad1 v_0.parts.length cap2, .slice ad451 hd447.length cap452])] ++ grp 115 3 encentry 1000 as448 s446.2) w ∧ Has [] 76 a [(1, .slice ad_errata errata.length cap_errata), (2, .int .i64 to_2), (7, .pointer (some q8)), (21, .slice ad1 v_0.parts.length cap2), (22, .int .i64 (v_0.parts.length : Int)), (23, .int .i64 (s446.1 : Int))] ∧ Grid hd447 as448 s446.2) ?_ ?_
  ·intro a w hS hA
   exact ⟨([] : List Hd), ([] : List Adr), none, 0, hS, hA.cut ⟨rfl, rfl, rfl, rfl, rfl, rfl, tv⟩, hG114⟩
  ·rintro j s446 y455 hr453 hz454 a w ⟨hd447, as448, ad451, cap452, hS, hA, hG449⟩
   refine TG.ap ?_ hS hA
   unfold m35_1 at hr453
   refine sq (rg (ltI rfl rfl rfl (on (sq ?_))))
   refine ci rfl (fun hc459 => ?_) (fun hc459 => ?_)
   ·have hr460 := if_p hc459 hr453
    refine sk (sq (bk (sq (rg ?_))))
    obtain ⟨x559, hx560, hr561⟩ := bd_some hr460
    obtain ⟨p562, rfl⟩ := hl3.adr hx560
    obtain ⟨cs563, hcs564, hq565, hr566⟩ := hl3.at hx560
    have hr567 := hr566
    obtain ⟨ad568, cap569, rfl, hl570⟩ := hr566
    have := hl570.len
    refine iaP U40 Z105 rfl rfl rfl rfl (lt_of hx560) (ldA G105 Z105 rfl rfl (sS 2 rfl hq565) rfl (va (cs := [.int .i64 x559.day, .slice ad568 x559.paragraphs.length cap569]) Tryz.zeroValue105 Z105 rfl rfl rfl rfl rfl rfl rfl rfl fun q571 K572 hK573 => (on (sq (rg (a1 rfl (on (sq (sq (rg (fb 1 U105 rfl rfl rfl rfl Z36 ?_)))))))))))
    refine ld G36 rfl rfl ((sS 0 rfl hK573).drop 1) rfl (lnL U36 rfl rfl (m1 rfl (on (TG.nilRow 3 115 3 (TG.as 3 (z := Own.list none 0 115 3 encentry ([] : List entry)) rfl rfl ?_)))))
    obtain ⟨e640, hl641, hr642⟩ := bd_some hr561
    refine jn (fun a w => ∃ (ad643 : Option Addr) (cap644 : Nat), St M W H [K572, K9, K5, H] ([(3, Own.list ad643 cap644 115 3 encentry e640), (5, Own.list ad451 cap452 113 1 encV hd447), (1, cel b7 110 [.int .i64 v_0.number, .int .i64 v_0.bound, .int .i64 v_0.height, .int .i64 v_0.width, .slice (some p562) v_0.parts.length cap2, .slice ad451 hd447.length cap452])] ++ grp 115 3 encentry 1000 as448 s446.2) w ∧ Has [] 76 a [(1, .slice ad_errata errata.length cap_errata), (2, .int .i64 to_2), (7, .pointer (some q8)), (10, .slice ad643 e640.length cap644), (21, .slice (some p562) v_0.parts.length cap2), (22, .int .i64 (v_0.parts.length : Int)), (23, .int .i64 (s446.1 : Int))]) ?_ ?_
    ·refine bk ?_
     refine lp hl641 (fun s645 a w => ∃ (ad646 : Option Addr) (cap647 : Nat), St M W H [K572, K9, K5, H] ([(3, Own.list ad646 cap647 115 3 encentry s645.2), (5, Own.list ad451 cap452 113 1 encV hd447), (1, cel b7 110 [.int .i64 v_0.number, .int .i64 v_0.bound, .int .i64 v_0.height, .int .i64 v_0.width, .slice (some p562) v_0.parts.length cap2, .slice ad451 hd447.length cap452])] ++ grp 115 3 encentry 1000 as448 s446.2) w ∧ Has [] 76 a [(1, .slice ad_errata errata.length cap_errata), (2, .int .i64 to_2), (7, .pointer (some q8)), (10, .slice ad646 s645.2.length cap647), (21, .slice (some p562) v_0.parts.length cap2), (22, .int .i64 (v_0.parts.length : Int)), (23, .int .i64 (s446.1 : Int)), (28, .slice ad568 x559.paragraphs.length cap569), (29, .int .i64 (x559.paragraphs.length : Int)), (30, .int .i64 (s645.1 : Int))]) ?_ ?_
     ·intro a w hS hA
      exact ⟨none, 0, hS, hA.cut ⟨rfl, rfl, rfl, rfl, rfl, rfl, rfl, rfl, rfl, rfl, tv⟩⟩
     ·rintro j s645 y650 hr648 hz649 a w ⟨ad646, cap647, hS, hA⟩
      refine TG.ap ?_ hS hA
      unfold m35_2 at hr648
      refine sq (rg (ltI rfl rfl rfl (on (sq ?_))))
      refine ci rfl (fun hc654 => ?_) (fun hc654 => ?_)
      ·have hr655 := if_p hc654 hr648
       refine sk (sq (bk (sq (rg ?_))))
       obtain ⟨x672, hx673, hr674⟩ := bd_some hr655
       obtain ⟨p675, rfl⟩ := hl570.adr hx673
       obtain ⟨cs676, hcs677, hq678, hr679⟩ := hl570.at hx673
       obtain rfl := hr679
       refine iaP U36 Z52 rfl rfl rfl rfl (lt_of hx673) (ldA G52 Z52 rfl rfl (sS 3 rfl hq678) rfl (va (cs := [.int .i64 x672.anchor, .string (bs x672.text)]) Tryz.zeroValue52 Z52 rfl rfl rfl rfl rfl rfl rfl rfl fun q680 K681 hK682 => (on (rg (m1 rfl (ldA G52 Z52 rfl rfl (sS 0 rfl hK682) rfl (bu (cs := [.int .i64 x672.anchor, .string (bs x672.text), .bool false]) T10.B115 rfl rfl rfl ?_)))))))
       obtain ⟨hk683, hr684⟩ := chk_some hr674
       have := lenA s645.2 [(⟨x672, false⟩ : entry)]
       have := len1 (⟨x672, false⟩ : entry)
       refine ap1 3 encentry (l := s645.2) (⟨x672, false⟩ : entry) T10.E113 rfl rfl rfl rfl rfl rfl rfl rfl rfl rfl rfl rfl hk683 fun ad685 cap686 u687 => (a1 rfl (on (rg (adI rfl rfl rfl (by omega) (m1 rfl (on ?_))))))
       cases hr684
       intro a w hS hA
       exact ⟨_, hz649, ad685, cap686, hS.selH [1, 2, 3, 4] rfl, hA.cut ⟨rfl, rfl, rfl, rfl, rfl, rfl, rfl, rfl, rfl, rfl, tv⟩⟩
      ·have hr688 := if_n hc654 hr648
       refine xt rfl ?_
       cases hr688
       obtain rfl := Fin.out hz649
       intro a w hS hA
       exact ⟨ad646, cap647, hS, hA.cut ⟨rfl, rfl, rfl, rfl, rfl, rfl, rfl, tv⟩⟩
    ·rintro a w ⟨ad643, cap644, hS, hA⟩
     refine TG.ap ?_ hS hA
     obtain ⟨hk697, hr698⟩ := chk_some hr642
     refine drG2 8 7 mixed (by kernel_rfl) rfl rfl (DG.detA rfl rfl rfl (fun τ a w K hS hA hF => TG.pa hS hA (ld G111 rfl rfl (sS 2 rfl hK10) rfl fin1)) (DG.det (fun τ => τ = ([(3, Own.list ad643 cap644 115 3 encentry e640), (5, Own.list ad451 cap452 113 1 encV hd447), (1, cel b7 110 [.int .i64 v_0.number, .int .i64 v_0.bound, .int .i64 v_0.height, .int .i64 v_0.width, .slice (some p562) v_0.parts.length cap2, .slice ad451 hd447.length cap452])] ++ grp 115 3 encentry 1000 as448 s446.2)) rfl rfl (.inr (by kernel_rfl)) (fun _ h => by cases h) rfl rfl (fun τ hτ a w K hS hA hF => by subst hτ <;> exact TG.pa hS hA (ld G111 rfl rfl (sS 2 rfl hK10) rfl fin1)) (DG.det (fun τ => τ = ([(3, Own.list ad643 cap644 115 3 encentry e640), (5, Own.list ad451 cap452 113 1 encV hd447), (1, cel b7 110 [.int .i64 v_0.number, .int .i64 v_0.bound, .int .i64 v_0.height, .int .i64 v_0.width, .slice (some p562) v_0.parts.length cap2, .slice ad451 hd447.length cap452])] ++ grp 115 3 encentry 1000 as448 s446.2)) rfl rfl (.inr (by kernel_rfl)) (fun _ h => by cases h) rfl rfl (fun τ hτ a w K hS hA hF => by subst hτ <;> exact TG.pa hS hA (nl rfl rfl fin1)) (DG.det (fun τ => τ = ([(3, Own.list ad643 cap644 115 3 encentry e640), (5, Own.list ad451 cap452 113 1 encV hd447), (1, cel b7 110 [.int .i64 v_0.number, .int .i64 v_0.bound, .int .i64 v_0.height, .int .i64 v_0.width, .slice (some p562) v_0.parts.length cap2, .slice ad451 hd447.length cap452])] ++ grp 115 3 encentry 1000 as448 s446.2)) rfl rfl (.inr (by kernel_rfl)) (fun _ h => by cases h) rfl rfl (fun τ hτ a w K hS hA hF => by subst hτ <;> exact TG.pa hS hA (fb 5 U110 rfl rfl rfl rfl Z108 fin1)) (DG.det (fun τ => τ = ([(3, Own.list ad643 cap644 115 3 encentry e640), (5, Own.list ad451 cap452 113 1 encV hd447), (1, cel b7 110 [.int .i64 v_0.number, .int .i64 v_0.bound, .int .i64 v_0.height, .int .i64 v_0.width, .slice (some p562) v_0.parts.length cap2, .slice ad451 hd447.length cap452])] ++ grp 115 3 encentry 1000 as448 s446.2)) rfl rfl (.inr (by kernel_rfl)) (fun _ h => by cases h) rfl rfl (fun τ hτ a w K hS hA hF => by subst hτ <;> exact TG.pa hS hA (ld G108 rfl rfl ((sO 1 rfl).drop 5) rfl fin1)) (DG.det (fun τ => τ = ([(3, Own.list ad643 cap644 115 3 encentry e640), (5, Own.list ad451 cap452 113 1 encV hd447), (1, cel b7 110 [.int .i64 v_0.number, .int .i64 v_0.bound, .int .i64 v_0.height, .int .i64 v_0.width, .slice (some p562) v_0.parts.length cap2, .slice ad451 hd447.length cap452])] ++ grp 115 3 encentry 1000 as448 s446.2)) rfl rfl (.inr (by kernel_rfl)) (fun _ h => by cases h) rfl rfl (fun τ hτ a w K hS hA hF => by subst hτ <;> exact TG.pa hS hA (m1 rfl fin1)) ?_))))))
     refine DG.und (α := Option Addr × Nat) (none, 0) (fun q => .slice q.1 1 q.2) (fun (q : Option Addr × Nat) K => Sl (Flat encV) 1 K q.1 q.2 [(ad643, e640.length, cap644)]) (fun τ => τ = ([(3, Own.list ad643 cap644 115 3 encentry e640), (5, Own.list ad451 cap452 113 1 encV hd447), (1, cel b7 110 [.int .i64 v_0.number, .int .i64 v_0.bound, .int .i64 v_0.height, .int .i64 v_0.width, .slice (some p562) v_0.parts.length cap2, .slice ad451 hd447.length cap452])] ++ grp 115 3 encentry 1000 as448 s446.2)) rfl rfl (.inr (by kernel_rfl)) (fun _ h => by cases h) (fun _ _ _ h x => x.mono (Flat.mono encV) h) (by kernel_rfl) rfl rfl (fun τ hτ a w K hS hA hF => by subst hτ <;> exact TG.pa hS hA (bS (cs := [(Value.slice ad643 e640.length cap644)]) T10.E108 rfl rfl rfl rfl fun q689 K690 hq691 hK692 => by
       have hl693 : Sl (Flat encV) 1 K690 (some q689) 1 [(ad643, e640.length, cap644)] := Sl.litR (css := [[(Value.slice ad643 e640.length cap644)]]) (l := [(ad643, e640.length, cap644)]) ⟨⟨rfl, rfl, rfl⟩, tv⟩ hq691 hK692 rfl
       exact finU (f := fun q => .slice q.1 1 q.2) (G := (fun (q : Option Addr × Nat) K => Sl (Flat encV) 1 K q.1 q.2 [(ad643, e640.length, cap644)])) (_, _) (fun _ _ _ h x => x.mono (Flat.mono encV) h) hl693)) ?_
     rintro ⟨ad695, cap696⟩
     refine DG.turn (α := Option Addr × Nat) (none, 0) (fun q => .slice q.1 ((hd447 ++ [(ad643, e640.length, cap644)]).length) q.2) (fun _ _ => True) (fun q => ([(3, Own.list ad643 cap644 115 3 encentry e640), (5, Own.list q.1 q.2 113 1 encV (hd447 ++ [(ad643, e640.length, cap644)])), (1, cel b7 110 [.int .i64 v_0.number, .int .i64 v_0.bound, .int .i64 v_0.height, .int .i64 v_0.width, .slice (some p562) v_0.parts.length cap2, .slice ad451 hd447.length cap452])] ++ grp 115 3 encentry 1000 as448 s446.2)) rfl (fun _ _ _ _ h => h) (by kernel_rfl) rfl rfl (fun a w K hS hA hF => TG.pa hS hA (apS 5 (enc := encV) (l := hd447) (m := [(ad643, e640.length, cap644)]) T10.E108 rfl rfl rfl rfl rfl rfl (hF.1 rfl) 0 rfl (fun _ => rfl) (fun _ => rfl) rfl (by have := hG449.hlen; simp only [List.length_cons, List.length_nil]; omega) fun ad699 cap700 => finT (f := fun q => .slice q.1 ((hd447 ++ [(ad643, e640.length, cap644)]).length) q.2) (G := fun _ _ => True) (σ1 := fun q => ([(3, Own.list ad643 cap644 115 3 encentry e640), (5, Own.list q.1 q.2 113 1 encV (hd447 ++ [(ad643, e640.length, cap644)])), (1, cel b7 110 [.int .i64 v_0.number, .int .i64 v_0.bound, .int .i64 v_0.height, .int .i64 v_0.width, .slice (some p562) v_0.parts.length cap2, .slice ad451 hd447.length cap452])] ++ grp 115 3 encentry 1000 as448 s446.2)) (_, _) tv)) ?_
     rintro ⟨ad699, cap700⟩
     refine DG.nil fun K701 hF => ?_
     obtain ⟨_, hu694, _⟩ := hF
     have := hu694.len
     refine TG.absorbA [(3, Own.list ad643 cap644 115 3 encentry e640), (5, Own.list ad699 cap700 113 1 encV (hd447 ++ [(ad643, e640.length, cap644)])), (1, cel b7 110 [.int .i64 v_0.number, .int .i64 v_0.bound, .int .i64 v_0.height, .int .i64 v_0.width, .slice (some p562) v_0.parts.length cap2, .slice ad451 hd447.length cap452])] (B := [(5, Own.list ad699 cap700 113 1 encV (hd447 ++ [(ad643, e640.length, cap644)])), (1, cel b7 110 [.int .i64 v_0.number, .int .i64 v_0.bound, .int .i64 v_0.height, .int .i64 v_0.width, .slice (some p562) v_0.parts.length cap2, .slice ad451 hd447.length cap452])]) 3 (b := 1000) hG449 rfl rfl ?_
     have hG702 := hG449.snoc e640 ad643 cap644
     refine nl rfl rfl (fb 5 U110 rfl rfl rfl rfl Z108 (sto 1 (cs := [.slice ad699 ((hd447 ++ [(ad643, e640.length, cap644)]).length) cap700]) Z108 rfl rfl rfl rfl rfl rfl rfl (on (rg (adI rfl rfl rfl (by omega) (m1 rfl (on ?_)))))))
     cases hr698
     intro a w hS hA
     exact ⟨_, hz454, (hd447 ++ [(ad643, e640.length, cap644)]), (as448 ++ [(ad643, cap644)]), ad699, cap700, hS.selH [2, 3, 4] rfl, hA.cut ⟨rfl, rfl, rfl, rfl, rfl, rfl, tv⟩, hG702⟩
   ·have hr703 := if_n hc459 hr453
    refine xt rfl ?_
    cases hr703
    obtain rfl := Fin.out hz454
    intro a w hS hA
    exact ⟨hd447, as448, ad451, cap452, hS, hA.cut ⟨rfl, rfl, rfl, tv⟩, hG449⟩
 ·rintro a w ⟨hd440, as441, ad444, cap445, hS, hA, hG442⟩
  refine TG.ap ?_ hS hA
  refine sq (sq (rg (m1 rfl (m1 rfl (clT C55 Tryz.func55 rfl Tryz.ntmps55 rfl rfl rfl rfl (sq (rg (bI (cs := [.slice ad_errata errata.length cap_errata]) rfl rfl rfl fun q710 K711 hK712 => (bI (cs := [.int .i64 to_2]) rfl rfl rfl fun q713 K714 hK715 => (a1 rfl (on ?_)))))))))))
  refine sq (rg (fn rfl rfl rfl (a1 rfl (on (rt_ ?_)))))
  intro a w hS hA
  refine ret1 hA rfl rfl ?_
  refine ⟨_, rfl, fun a hA => ?_⟩
  refine putK rfl hA hS (on (bk (TG.stillC 1 rfl fun K1212 hK1213 => ?_)))
  obtain ⟨t1701, hx1702, hr1703⟩ := bd_some hr439
  refine rfO 6 7 C85 Tryz.func85 rfl Tryz.ntmps85 rfl rfl (fun l1214 dB1215 O1217 w => (∃ (hd1704 : List Hd) (as1705 : List Adr), St M W H [K1212, K714, K711, K9, K5, H] ([(6, Own.blk l1214 (O1217 .ready none)), (7, Own.blk dB1215 (.deferred (some []))), (5, Own.list ad444 cap445 113 1 encV hd1704)] ++ grp 115 3 encentry 1000 as1705 t1701) w ∧ Grid hd1704 as1705 t1701 ∧ hd1704.length = hd440.length)) ?_ ?_
  ·intro l1214 dB1215 O1217 tm1216 hT1218 hO1219
   refine sq (rg (ld G44 rfl rfl (sS 2 rfl hK712) rfl ?_))
   obtain ⟨t1715, hx1716, hr1717⟩ := bd_some hx1702
   refine clI C86 Tryz.func86 rfl Tryz.ntmps86 rfl rfl rfl rfl (fun v w => (∃ (ad1718 : Option Addr) (cap1719 : Nat), v = .slice ad1718 t1715.length cap1719 ∧ St M W H [K1212, K714, K711, K9, K5, H] ([(8, Own.list ad1718 cap1719 116 6 encErratum t1715), (6, Own.blk l1214 (O1217 .ready none)), (7, Own.blk dB1215 (.deferred (some []))), (5, Own.list ad444 cap445 113 1 encV hd440)] ++ grp 115 3 encentry 1000 as441 e437) w)) ?_ ?_
   ·refine sq (rg (a1 rfl (on (sq (sq (rg (m1 rfl (slN U44 rfl rfl (on ?_)))))))))
    refine cb rfl (fun hc1722 => ?_) (fun hc1722 => ?_)
    ·obtain rfl := Sl.isNil h_errata hc1722
     have hr1723 := (chk_some hx1716).2
     refine sq (rg (a1 rfl (on (rt_ (TG.nilRow 8 116 6 (TG.as 8 (z := Own.list none 0 116 6 encErratum ([] : List Erratum)) rfl rfl ?_))))))
     cases hr1723
     intro a w hS hA
     refine ret1 hA rfl rfl ?_
     exact ⟨_, rfl, ⟨none, 0, rfl, hS⟩⟩
    ·refine sk (sq (rg (bSL 8 encErratum ([] : List Erratum) (cs := []) T10.E44 rfl rfl rfl rfl rfl rfl fun b1724 => (m1 rfl ?_))))
     obtain ⟨hk1725, hr1726⟩ := chk_some hx1716
     have := lenA ([] : List Erratum) errata
     refine apS 8 (enc := encErratum) (l := ([] : List Erratum)) (m := errata) T10.E44 rfl rfl rfl rfl rfl rfl h_errata 5 rfl (fun _ => rfl) (fun _ => rfl) rfl hk1725 fun ad1727 cap1728 => (a1 rfl (on (rt_ ?_)))
     cases hr1726
     intro a w hS hA
     refine ret1 hA rfl rfl ?_
     exact ⟨_, rfl, ⟨ad1727, cap1728, rfl, hS⟩⟩
   ·rintro a w v hA (⟨ad1718, cap1719, rfl, hS⟩)
    refine putK rfl hA hS (a1 rfl (on (sq (rg (m1 rfl ?_)))))
    obtain ⟨l1729, hx1730, hr1731⟩ := bd_some hr1717
    have hln1732 : l1729.length = t1715.length := (sortO_len hx1730)
    refine srtK 8 (enc := encErratum) (V := Va encErratum) (V' := Va encErratum) (fun _ => rfl) (fun _ => rfl) Tryz.srt87 C87 rfl rfl rfl rfl rfl rfl (fun H le => ⟨88, [], [], rfl, C88, fun w_ K_ args_ v_ hK hw hs => by obtain ⟨u0_, u1_, x0_, x1_, r_, rfl, h0_, h1_, hx, rfl⟩ := hs; cases h0_; cases h1_; exact w88  x0_ rfl x1_ rfl  hx⟩) (fun _ _ => rfl) (fun _ _ => rfl) hx1730 (on (sq (rg (m1 rfl (TG.len 8 rfl fun _ => (lnL U44 rfl rfl (m1 rfl (on ?_))))))))
    obtain ⟨e2193, hl2194, hr2195⟩ := bd_some hr1731
    refine jn (fun a w => ∃ t2196, e2193 = .inl t2196 ∧ ∃ (hd2197 : List Hd) (as2198 : List Adr), St M W H [K1212, K714, K711, K9, K5, H] ([(8, Own.list ad1718 cap1719 116 6 encErratum l1729), (6, Own.blk l1214 (O1217 .ready none)), (7, Own.blk dB1215 (.deferred (some []))), (5, Own.list ad444 cap445 113 1 encV hd2197)] ++ grp 115 3 encentry 1000 as2198 t2196) w ∧ Has [] 28 a [] ∧ Grid hd2197 as2198 t2196 ∧ hd2197.length = hd440.length) ?_ ?_
    ·refine bk ?_
     refine lp hl2194 (fun s2201 a w => ∃ (hd2202 : List Hd) (as2203 : List Adr), St M W H [K1212, K714, K711, K9, K5, H] ([(8, Own.list ad1718 cap1719 116 6 encErratum l1729), (6, Own.blk l1214 (O1217 .ready none)), (7, Own.blk dB1215 (.deferred (some []))), (5, Own.list ad444 cap445 113 1 encV hd2202)] ++ grp 115 3 encentry 1000 as2203 s2201.2) w ∧ Has [] 28 a [(0, .func (.yield l1214) #[] #[]), (2, .pointer (some q713)), (11, .slice ad1718 t1715.length cap1719), (12, .int .i64 (t1715.length : Int)), (13, .int .i64 (s2201.1 : Int))] ∧ Grid hd2202 as2203 s2201.2 ∧ hd2202.length = hd440.length) ?_ ?_
     ·intro a w hS hA
      exact ⟨hd440, as441, hS, hA.cut ⟨rfl, rfl, rfl, rfl, rfl, tv⟩, hG442, rfl⟩
     ·rintro j s2201 y2208 hr2206 hz2207 a w ⟨hd2202, as2203, hS, hA, hG2204, hln2205⟩
      refine TG.ap ?_ hS hA
      unfold m35_3 at hr2206
      refine sq (rg (ltI rfl rfl rfl (on (sq ?_))))
      refine ci rfl (fun hc2212 => ?_) (fun hc2212 => ?_)
      ·have hr2213 := if_p hc2212 hr2206
       refine sk (sq (bk (sq (rg ?_))))
       obtain ⟨x2432, hx2433, hr2434⟩ := bd_some hr2213
       refine TG.addr 8 rfl (lt_of0 hx2433) fun b2435 h => ?_; subst h
       refine iaP U44 Z116 rfl rfl rfl rfl (Nat.lt_of_lt_of_eq (lt_of hx2433) hln1732) (ldA G116 Z116 rfl rfl (sE 8 rfl (fun _ => rfl) hx2433) rfl (va (cs := [.int .i64 x2432.number, .int .i64 x2432.day, .int .u8 x2432.kind, .int .i64 x2432.anchor, .string (bs x2432.text), .int .i64 x2432.new_]) Tryz.zeroValue116 Z116 rfl rfl rfl rfl rfl rfl rfl rfl fun q2436 K2437 hK2438 => (on (sq ?_))))
       obtain ⟨t2642, hx2643, hr2644⟩ := bd_some hr2434
       refine jn (fun a w => ∃ (hd2645 : List Hd) (as2646 : List Adr), St M W H [K2437, K1212, K714, K711, K9, K5, H] ([(8, Own.list (some ⟨b2435, 0, none⟩) cap1719 116 6 encErratum l1729), (6, Own.blk l1214 (O1217 .ready none)), (7, Own.blk dB1215 (.deferred (some []))), (5, Own.list ad444 cap445 113 1 encV hd2645)] ++ grp 115 3 encentry 1000 as2646 t2642.2) w ∧ Has [] 28 a [(0, .func (.yield l1214) #[] #[]), (2, .pointer (some q713)), (11, .slice (some ⟨b2435, 0, none⟩) t1715.length cap1719), (12, .int .i64 (t1715.length : Int)), (13, .int .i64 (s2201.1 : Int)), (26, .bool t2642.1)] ∧ Grid hd2645 as2646 t2642.2 ∧ hd2645.length = hd440.length) ?_ ?_
       ·refine rg (fb 1 U116 rfl rfl rfl rfl Z3 (ld G3 rfl rfl (((sS 0 rfl hK2438).drop 1).take 1) rfl (ld G3 rfl rfl (sS 2 rfl hK715) rfl (gtI rfl rfl rfl (m1 rfl ?_)))))
        by_cases hb2649 : to_2 < x2432.day
        ·have hr2650 := if_p hb2649 hx2643
         refine gf' hb2649 rfl (gf' hb2649 rfl (gf' hb2649 rfl (gf' hb2649 rfl (pt hb2649 rfl rfl (on ?_)))))
         cases hr2650
         intro a w hS hA
         exact ⟨hd2202, as2203, hS, hA.cut ⟨rfl, rfl, rfl, rfl, rfl, rfl, tv⟩, hG2204, hln2205⟩
        ·have hr2651 := if_n hb2649 hx2643
         refine gt' hb2649 rfl (m1 rfl (gt' hb2649 rfl (ldA G116 Z116 rfl rfl (sS 0 rfl hK2438) rfl (gt' hb2649 rfl ?_))))
         obtain ⟨t2845, hx2846, hr2847⟩ := bd_some hr2651
         refine yl 6 [] (L1 := (54, .agg [.int .i64 x2432.number, .int .i64 x2432.day, .int .u8 x2432.kind, .int .i64 x2432.anchor, .string (bs x2432.text), .int .i64 x2432.new_].toArray) :: _) rfl rfl rfl hT1218 hO1219 rfl rfl rfl (fun v w => (∃ (hd2848 : List Hd) (as2849 : List Adr), v = .bool true ∧ St M W H [K2437, K1212, K714, K711, K9, K5, H] ([(8, Own.list (some ⟨b2435, 0, none⟩) cap1719 116 6 encErratum l1729), (6, Own.blk l1214 (O1217 .ready none)), (7, Own.blk dB1215 (.deferred (some []))), (5, Own.list ad444 cap445 113 1 encV hd2848)] ++ grp 115 3 encentry 1000 as2849 t2845) w ∧ Grid hd2848 as2849 t2845 ∧ hd2848.length = hd440.length)) ?_ ?_
         ·refine rg (va (cs := [.int .i64 x2432.number, .int .i64 x2432.day, .int .u8 x2432.kind, .int .i64 x2432.anchor, .string (bs x2432.text), .int .i64 x2432.new_]) Tryz.zeroValue116 Z116 rfl rfl rfl rfl rfl rfl rfl rfl fun q2852 K2853 hK2854 => (on (bR 6 hO1219 rfl (bk (sq (rg (ld G111 rfl rfl (sS 5 rfl hK10) rfl (fb 3 U116 rfl rfl rfl rfl Z3 (ld G3 rfl rfl (((sS 0 rfl hK2854).drop 3).take 1) rfl ?_)))))))))
          obtain ⟨t3075, hx3076, hr3077⟩ := bd_some hx2846
          refine clI C56 Tryz.func56 rfl Tryz.ntmps56 rfl rfl rfl rfl (fun v w => (v = .tuple [.int .i64 (t3075.2.1 : Int), .int .i64 (t3075.1 : Int), .bool t3075.2.2].toArray ∧ St M W H [K2853, K2437, K1212, K714, K711, K9, K5, H] ([(8, Own.list (some ⟨b2435, 0, none⟩) cap1719 116 6 encErratum l1729), (6, Own.blk l1214 (O1217 .busy none)), (7, Own.blk dB1215 (.deferred (some []))), (5, Own.list ad444 cap445 113 1 encV hd2202)] ++ grp 115 3 encentry 1000 as2203 s2201.2) w)) ?_ ?_
          ·refine sq (rg (a1 rfl (a1 rfl (a1 rfl (on (sc (sq (lb (sq (sq (rg ?_)))))))))))
           refine m1 rfl (nl rfl rfl (fb 5 U110 rfl rfl rfl rfl Z108 (ld G108 rfl rfl ((sS 2 rfl hK1213).drop 5) rfl (lnE (hln2205.symm.trans hG2204.hlen) U108 rfl rfl (m1 rfl (on ?_))))))
           obtain ⟨e3107, hl3108, hr3109⟩ := bd_some hx3076
           refine jn (fun a w => St M W H [K2853, K2437, K1212, K714, K711, K9, K5, H] ([(8, Own.list (some ⟨b2435, 0, none⟩) cap1719 116 6 encErratum l1729), (6, Own.blk l1214 (O1217 .busy none)), (7, Own.blk dB1215 (.deferred (some []))), (5, Own.list ad444 cap445 113 1 encV hd2202)] ++ grp 115 3 encentry 1000 as2203 s2201.2) w ∧ Has [] 40 a [(4, .int .i64 (e3107.1 : Int)), (5, .int .i64 (e3107.2.1 : Int)), (6, .bool e3107.2.2)]) ?_ ?_
           ·refine bk ?_
            refine lp hl3108 (fun s3110 a w => St M W H [K2853, K2437, K1212, K714, K711, K9, K5, H] ([(8, Own.list (some ⟨b2435, 0, none⟩) cap1719 116 6 encErratum l1729), (6, Own.blk l1214 (O1217 .busy none)), (7, Own.blk dB1215 (.deferred (some []))), (5, Own.list ad444 cap445 113 1 encV hd2202)] ++ grp 115 3 encentry 1000 as2203 s2201.2) w ∧ Has [] 40 a [(1, .int .i64 x2432.anchor), (4, .int .i64 (s3110.1 : Int)), (5, .int .i64 (s3110.2.1 : Int)), (6, .bool s3110.2.2.2), (14, .slice ad444 hd440.length cap445), (15, .int .i64 (s2201.2.length : Int)), (16, .int .i64 (s3110.2.2.1 : Int))]) ?_ ?_
            ·exact cu ⟨rfl, rfl, rfl, rfl, rfl, rfl, rfl, tv⟩
            ·rintro j s3110 y3113 hr3111 hz3112 a w ⟨hS, hA⟩
             refine TG.ap ?_ hS hA
             unfold m35_4 at hr3111
             refine sq (rg (ltI rfl rfl rfl (on (sq ?_))))
             refine ci rfl (fun hc3117 => ?_) (fun hc3117 => ?_)
             ·have hr3118 := if_p hc3117 hr3111
              refine sk (sq (bk (sq (rg (m1 rfl ?_)))))
              obtain ⟨x3142, hx3143, hr3144⟩ := bd_some hr3118
              obtain ⟨ad3145, cap3146, ha3147, hh3148⟩ := hG2204.at hx3143
              refine TG.addr 5 rfl (lt_of0 hh3148) fun b3149 h => ?_; subst h
              refine iaP U108 Z113 rfl rfl rfl rfl (Nat.lt_of_lt_of_eq (lt_of hh3148) hln2205) (ld G113 rfl rfl (sE 5 rfl (fun _ => rfl) hh3148) rfl (a1 rfl (a1 rfl (on (sq (rg (m1 rfl (lnL U113 rfl rfl (m1 rfl (on ?_))))))))))
              obtain ⟨e3164, hl3165, hr3166⟩ := bd_some hr3144
              refine jn (fun a w => ∃ t3167, e3164 = .inl t3167 ∧ St M W H [K2853, K2437, K1212, K714, K711, K9, K5, H] ([(8, Own.list (some ⟨b2435, 0, none⟩) cap1719 116 6 encErratum l1729), (6, Own.blk l1214 (O1217 .busy none)), (7, Own.blk dB1215 (.deferred (some []))), (5, Own.list (some ⟨b3149, 0, none⟩) cap445 113 1 encV hd2202)] ++ grp 115 3 encentry 1000 as2203 s2201.2) w ∧ Has [] 40 a [(1, .int .i64 x2432.anchor), (4, .int .i64 (t3167.1 : Int)), (5, .int .i64 (t3167.2.1 : Int)), (6, .bool t3167.2.2), (14, .slice (some ⟨b3149, 0, none⟩) hd440.length cap445), (15, .int .i64 (s2201.2.length : Int)), (16, .int .i64 (s3110.2.2.1 : Int))]) ?_ ?_
              ·refine bk ?_
               refine lp hl3165 (fun s3168 a w => St M W H [K2853, K2437, K1212, K714, K711, K9, K5, H] ([(8, Own.list (some ⟨b2435, 0, none⟩) cap1719 116 6 encErratum l1729), (6, Own.blk l1214 (O1217 .busy none)), (7, Own.blk dB1215 (.deferred (some []))), (5, Own.list (some ⟨b3149, 0, none⟩) cap445 113 1 encV hd2202)] ++ grp 115 3 encentry 1000 as2203 s2201.2) w ∧ Has [] 40 a [(1, .int .i64 x2432.anchor), (4, .int .i64 (s3168.1 : Int)), (5, .int .i64 (s3168.2.1 : Int)), (6, .bool s3168.2.2.2), (7, .int .i64 (s3110.2.2.1 : Int)), (14, .slice (some ⟨b3149, 0, none⟩) hd440.length cap445), (15, .int .i64 (s2201.2.length : Int)), (16, .int .i64 (s3110.2.2.1 : Int)), (21, .slice ad3145 x3142.length cap3146), (22, .int .i64 (x3142.length : Int)), (23, .int .i64 (s3168.2.2.1 : Int))]) ?_ ?_
               ·exact cu ⟨rfl, rfl, rfl, rfl, rfl, rfl, rfl, rfl, rfl, rfl, rfl, tv⟩
               ·rintro j s3168 y3171 hr3169 hz3170 a w ⟨hS, hA⟩
                refine TG.ap ?_ hS hA
                unfold m35_5 at hr3169
                refine sq (rg (ltI rfl rfl rfl (on (sq ?_))))
                refine ci rfl (fun hc3175 => ?_) (fun hc3175 => ?_)
                ·have hr3176 := if_p hc3175 hr3169
                 refine sk (sq (bk (sq (rg (m1 rfl ?_)))))
                 obtain ⟨x3185, hx3186, hr3187⟩ := bd_some hr3176
                 refine TG.addr (1000 + s3110.2.2.1) (gk rfl (gk rfl (gk rfl (gk rfl (gget ha3147 hx3143))))) (lt_of0 hx3186) fun b3188 h => ?_; subst h
                 refine iaP U113 Z115 rfl rfl rfl rfl (lt_of hx3186) (ldA G115 Z115 rfl rfl (sE (enc := encentry) (size := 3) (1000 + s3110.2.2.1) (gk rfl (gk rfl (gk rfl (gk rfl (gget ha3147 hx3143))))) (fun _ => rfl) hx3186) rfl (al 9 (cs := [.int .i64 0, .string (bs []), .bool false]) Tryz.zeroValue115 rfl rfl fun b3189 => (a1 rfl (sto 9 (cs := [.int .i64 x3185.paragraph.anchor, .string (bs x3185.paragraph.text), .bool x3185.removed]) Z115 rfl rfl rfl rfl rfl rfl rfl (on (sq (rg (fb 0 U115 rfl rfl rfl rfl Z52 (fb 0 U52 rfl rfl rfl rfl Z3 (ld G3 rfl rfl ((sO 9 rfl).take 1) rfl (m1 rfl ?_)))))))))))
                 refine eqI rfl rfl rfl (on ?_)
                 refine ci rfl (fun hc3193 => ?_) (fun hc3193 => ?_)
                 ·have hr3194 := if_p hc3193 hr3187
                  refine sq (rg (m1 rfl (m1 rfl (a1 rfl (a1 rfl (a1 rfl (on (xt rfl ?_))))))))
                  obtain ⟨z3195, hr3196, rfl⟩ := mp_some hr3194
                  obtain rfl := Fin.out hz3170
                  cases hr3166
                  refine TG.del 9 ?_
                  cases hr3196
                  obtain rfl := Fin.out hz3112
                  exact cu ⟨rfl, rfl, rfl, tv⟩
                 ·have hr3197 := if_n hc3193 hr3187
                  refine sk (rg ?_)
                  obtain ⟨hk3198, hr3199⟩ := chk_some hr3197
                  refine adI rfl rfl rfl hk3198 (m1 rfl (on (TG.del 9 ?_)))
                  cases hr3199
                  intro a w hS hA
                  exact ⟨_, hz3170, hS, hA.cut ⟨rfl, rfl, rfl, rfl, rfl, rfl, rfl, rfl, rfl, rfl, rfl, tv⟩⟩
                ·have hr3200 := if_n hc3175 hr3169
                 refine xt rfl ?_
                 cases hr3200
                 obtain rfl := Fin.out hz3170
                 intro a w hS hA
                 exact ⟨_, rfl, hS, hA.cut ⟨rfl, rfl, rfl, rfl, rfl, rfl, rfl, tv⟩⟩
              ·rintro a w ⟨t3167, rfl, hS, hA⟩
               refine TG.ap ?_ hS hA
               refine rg ?_
               obtain ⟨hk3201, hr3202⟩ := chk_some hr3166
               refine adI rfl rfl rfl hk3201 (m1 rfl (on ?_))
               cases hr3202
               intro a w hS hA
               exact ⟨_, hz3112, hS, hA.cut ⟨rfl, rfl, rfl, rfl, rfl, rfl, rfl, tv⟩⟩
             ·have hr3203 := if_n hc3117 hr3111
              refine xt rfl ?_
              cases hr3203
              obtain rfl := Fin.out hz3112
              exact cu ⟨rfl, rfl, rfl, tv⟩
           ·rintro a w ⟨hS, hA⟩
            refine TG.ap ?_ hS hA
            refine sq (rg (m1 rfl (m1 rfl (m1 rfl (a1 rfl (a1 rfl (a1 rfl (on (rt_ ?_)))))))))
            cases hr3109
            intro a w hS hA
            refine ret3 hA rfl rfl rfl rfl ?_
            exact ⟨_, rfl, ⟨rfl, hS⟩⟩
          ·rintro a w v hA (⟨rfl, hS⟩)
           refine putK rfl hA hS (m1 rfl (ex rfl rfl rfl (ex rfl rfl rfl (ex rfl rfl rfl (a1 rfl (a1 rfl (a1 rfl (on (sq (rg (m1 rfl ?_)))))))))))
           refine on ?_
           obtain ⟨t3356, hx3357, hr3358⟩ := bd_some hr3077
           refine jn (fun a w => ∃ (hd3359 : List Hd) (as3360 : List Adr), St M W H [K2853, K2437, K1212, K714, K711, K9, K5, H] ([(8, Own.list (some ⟨b2435, 0, none⟩) cap1719 116 6 encErratum l1729), (6, Own.blk l1214 (O1217 .busy none)), (7, Own.blk dB1215 (.deferred (some []))), (5, Own.list ad444 cap445 113 1 encV hd3359)] ++ grp 115 3 encentry 1000 as3360 t3356) w ∧ Has [] 76 a [] ∧ Grid hd3359 as3360 t3356 ∧ hd3359.length = hd440.length) ?_ ?_
           ·refine cb rfl (fun hc3363 => ?_) (fun hc3363 => ?_)
            ·have hr3364 := if_p hc3363 hx3357
             obtain ⟨r3365, hx3366, hr3367⟩ := bd_some hr3364
             obtain ⟨hk3373, hr3374⟩ := chk_some hr3367
             by_cases hb3375 : x2432.kind = 0
             ·have hr3376 := if_p hb3375 hr3374
              refine drG 10 mixed (by kernel_rfl) rfl ?_
              refine DF.und (α := Addr) default (fun q => .slice (some q) 3 3) (fun (q : Addr) K => CellsAt K q [.func (.func 89) [].toArray [].toArray, .func (.func 90) [].toArray [].toArray, .func (.func 91) [].toArray [].toArray]) (fun _ _ _ h x => x.mono h) (by kernel_rfl) rfl (fun a w K hS hA hF => TG.pa hS hA (clK C57 rfl rfl rfl rfl (fun w H hH le => w57 hH hx3366) (by
                rintro v_ K3377 ⟨q3378, rfl, hK3379⟩
                exact finU (f := fun q => .slice (some q) 3 3) (G := (fun (q : Addr) K => CellsAt K q [.func (.func 89) [].toArray [].toArray, .func (.func 90) [].toArray [].toArray, .func (.func 91) [].toArray [].toArray])) _ (fun _ _ _ h x => x.mono h) hK3379))) fun q3381 => ?_
              refine dt rfl (fb 2 U116 rfl rfl rfl rfl Z5 fin1) (dt rfl (ld G5 rfl rfl (((sS 1 rfl hK2854).drop 2).take 1) rfl fin1) (DF.und () (fun _ => .pointer (some (q3381.add (0 * 1)))) (fun _ K => CellsAt K (q3381.add (0 * 1)) [.func (.func 89) [].toArray [].toArray, .func (.func 90) [].toArray [].toArray, .func (.func 91) [].toArray [].toArray]) (fun _ _ _ h x => x.mono h) (by kernel_rfl) rfl (fun a w K hS hA hF => TG.pa hS hA (iaP (j := 0) U169 Z168 rfl rfl rfl (by omega) (by decide) (finF (f := fun _ => .pointer (some (q3381.add (0 * 1)))) (G := fun _ K => CellsAt K (q3381.add (0 * 1)) [.func (.func 89) [].toArray [].toArray, .func (.func 90) [].toArray [].toArray, .func (.func 91) [].toArray [].toArray]) () ((hF.1 rfl).drop (0 * 1))))) fun _ => (DF.und () (fun _ => .pointer (some (q3381.add (0 * 1)))) (fun _ K => CellsAt K (q3381.add (0 * 1)) [.func (.func 89) [].toArray [].toArray, .func (.func 90) [].toArray [].toArray, .func (.func 91) [].toArray [].toArray]) (fun _ _ _ h x => x.mono h) (by kernel_rfl) rfl (fun a w K hS hA hF => TG.pa hS hA (fb 0 U168 rfl rfl rfl rfl Z166 (finF (f := fun _ => .pointer (some (q3381.add (0 * 1)))) (G := fun _ K => CellsAt K (q3381.add (0 * 1)) [.func (.func 89) [].toArray [].toArray, .func (.func 90) [].toArray [].toArray, .func (.func 91) [].toArray [].toArray]) () (hF.1 rfl)))) fun _ => (DF.det rfl (fun a w K hS hA hF => TG.pa hS hA (ld G166 rfl rfl ((sS 0 rfl (hF.1 rfl)).take 1) rfl fin1)) (dt rfl (ld G111 rfl rfl (sS 6 rfl hK10) rfl fin1) (dt rfl (m1 rfl fin1) (dt rfl (m1 rfl fin1) (dt rfl (ldA G116 Z116 rfl rfl (sS 1 rfl hK2854) rfl fin1) (DF.nil fun K3384 hF => ?_)))))))))
              obtain ⟨hu3383, hu3382, hu3380, _⟩ := hF
              obtain ⟨t3409, hx3410, hr3411⟩ := bd_some hr3376
              refine clI C89 Tryz.func89 rfl Tryz.ntmps89 rfl rfl rfl rfl (fun v w => (∃ (hd3412 : List Hd) (as3413 : List Adr), v = .tuple #[] ∧ St M W H [K3384, K2853, K2437, K1212, K714, K711, K9, K5, H] ([(8, Own.list (some ⟨b2435, 0, none⟩) cap1719 116 6 encErratum l1729), (6, Own.blk l1214 (O1217 .busy none)), (7, Own.blk dB1215 (.deferred (some []))), (5, Own.list ad444 cap445 113 1 encV hd3412)] ++ grp 115 3 encentry 1000 as3413 t3409) w ∧ Grid hd3412 as3413 t3409 ∧ hd3412.length = hd440.length)) ?_ ?_
              ·refine sq (rg (bI (cs := [.int .i64 x2432.number, .int .i64 x2432.day, .int .u8 x2432.kind, .int .i64 x2432.anchor, .string (bs x2432.text), .int .i64 x2432.new_]) rfl rfl rfl fun q3416 K3417 hK3418 => (on (sq (rg (m1 rfl (nl rfl rfl (fb 5 U110 rfl rfl rfl rfl Z108 (ld G108 rfl rfl ((sS 4 rfl hK1213).drop 5) rfl (m1 rfl ?_))))))))))
               obtain ⟨x3419, hx3420, hr3421⟩ := bd_some hx3410
               obtain ⟨ad3422, cap3423, ha3424, hh3425⟩ := hG2204.at hx3420
               refine TG.addr 5 rfl (lt_of0 hh3425) fun b3426 h => ?_; subst h
               refine iaP U108 Z113 rfl rfl rfl rfl (Nat.lt_of_lt_of_eq (lt_of hh3425) hln2205) (ld G113 rfl rfl (sE 5 rfl (fun _ => rfl) hh3425) rfl (m1 rfl ?_))
               obtain ⟨x3427, hx3428, hr3429⟩ := bd_some hr3421
               refine TG.addr (1000 + t3075.2.1) (gk rfl (gk rfl (gk rfl (gk rfl (gget ha3424 hx3420))))) (lt_of0 hx3428) fun b3430 h => ?_; subst h
               refine iaP U113 Z115 rfl rfl rfl rfl (lt_of hx3428) (a1 rfl (on (sq (rg (m1 rfl (nl rfl rfl (fb 2 U115 rfl rfl rfl rfl Z4 (ld G4 rfl rfl ((sE (enc := encentry) (size := 3) (1000 + t3075.2.1) (gk rfl (gk rfl (gk rfl (gk rfl (gget ha3424 hx3420))))) (fun _ => rfl) hx3428).drop 2) rfl (nt rfl rfl (on ?_))))))))))
               obtain ⟨t3435, hx3436, hr3437⟩ := bd_some hr3429
               refine jn (fun a w => ∃ (hd3438 : List Hd) (as3439 : List Adr), St M W H [K3417, K3384, K2853, K2437, K1212, K714, K711, K9, K5, H] ([(8, Own.list (some ⟨b2435, 0, none⟩) cap1719 116 6 encErratum l1729), (6, Own.blk l1214 (O1217 .busy none)), (7, Own.blk dB1215 (.deferred (some []))), (5, Own.list (some ⟨b3426, 0, none⟩) cap445 113 1 encV hd3438)] ++ grp 115 3 encentry 1000 as3439 t3435) w ∧ Has [] 29 a [] ∧ Grid hd3438 as3439 t3435 ∧ hd3438.length = hd440.length) ?_ ?_
               ·refine cb rfl (fun hc3442 => ?_) (fun hc3442 => ?_)
                ·replace hc3442 := nbt hc3442
                 have hr3443 := if_f hc3442 hx3436
                 refine rg (m1 rfl (fb 4 U116 rfl rfl rfl rfl Z9 (ld G9 rfl rfl (((sS 0 rfl hK3418).drop 4).take 1) rfl (nl rfl rfl (fb 0 U115 rfl rfl rfl rfl Z52 (fb 1 U52 rfl rfl rfl rfl Z9 (stE (enc := encentry) (1000 + t3075.2.1) (⟨(⟨x3427.paragraph.anchor, x2432.text⟩ : Paragraph), x3427.removed⟩ : entry) (q := ⟨b3430, 0, none⟩) (j := t3075.1) (size := 3) (cs := [.string (bs x2432.text)]) (off := 1) Z9 (ad3 (b := 0) (c := 1) rfl) rfl (gk rfl (gk rfl (gk rfl (gk rfl (gget ha3424 hx3420))))) (fun _ => rfl) hx3428 rfl rfl rfl rfl rfl (TG.eq (zk rfl (zk rfl (zk rfl (zk rfl (gset ha3424))))) ?_))))))))
                 have hG3444 := hG2204.put hx3420 (lenS x3419 t3075.1 (⟨(⟨x3427.paragraph.anchor, x2432.text⟩ : Paragraph), x3427.removed⟩ : entry))
                 refine on ?_
                 cases hr3443
                 intro a w hS hA
                 exact ⟨hd2202, as2203, hS, hA.cut tv, hG3444, hln2205⟩
                ·replace hc3442 := nbf hc3442
                 have hr3445 := if_p hc3442 hx3436
                 refine sk ?_
                 cases hr3445
                 intro a w hS hA
                 exact ⟨hd2202, as2203, hS, hA.cut tv, hG2204, hln2205⟩
               ·rintro a w ⟨hd3438, as3439, hS, hA, hG3440, hln3441⟩
                refine TG.ap ?_ hS hA
                cases hr3437
                intro a w hS hA
                refine ret0 hA rfl ?_
                exact ⟨_, rfl, ⟨hd3438, as3439, rfl, hS.selH [1, 2, 3, 4, 5, 6, 7, 8, 9] rfl, hG3440, hln3441⟩⟩
              ·rintro a w v hA (⟨hd3412, as3413, rfl, hS, hG3414, hln3415⟩)
               refine putK rfl hA hS (on ?_)
               cases hr3411
               intro a w hS hA
               exact ⟨hd3412, as3413, hS.selH [1, 2, 3, 4, 5, 6, 7, 8] rfl, hA.cut tv, hG3414, hln3415⟩
             ·have hr3446 := if_n hb3375 hr3374
              by_cases hb3452 : x2432.kind = 1
              ·have hr3453 := if_p hb3452 hr3446
               refine drG 10 mixed (by kernel_rfl) rfl ?_
               refine DF.und (α := Addr) default (fun q => .slice (some q) 3 3) (fun (q : Addr) K => CellsAt K q [.func (.func 89) [].toArray [].toArray, .func (.func 90) [].toArray [].toArray, .func (.func 91) [].toArray [].toArray]) (fun _ _ _ h x => x.mono h) (by kernel_rfl) rfl (fun a w K hS hA hF => TG.pa hS hA (clK C57 rfl rfl rfl rfl (fun w H hH le => w57 hH hx3366) (by
                 rintro v_ K3454 ⟨q3455, rfl, hK3456⟩
                 exact finU (f := fun q => .slice (some q) 3 3) (G := (fun (q : Addr) K => CellsAt K q [.func (.func 89) [].toArray [].toArray, .func (.func 90) [].toArray [].toArray, .func (.func 91) [].toArray [].toArray])) _ (fun _ _ _ h x => x.mono h) hK3456))) fun q3458 => ?_
               refine dt rfl (fb 2 U116 rfl rfl rfl rfl Z5 fin1) (dt rfl (ld G5 rfl rfl (((sS 1 rfl hK2854).drop 2).take 1) rfl fin1) (DF.und () (fun _ => .pointer (some (q3458.add (1 * 1)))) (fun _ K => CellsAt K (q3458.add (1 * 1)) [.func (.func 90) [].toArray [].toArray, .func (.func 91) [].toArray [].toArray]) (fun _ _ _ h x => x.mono h) (by kernel_rfl) rfl (fun a w K hS hA hF => TG.pa hS hA (iaP (j := 1) U169 Z168 rfl rfl rfl (by omega) (by decide) (finF (f := fun _ => .pointer (some (q3458.add (1 * 1)))) (G := fun _ K => CellsAt K (q3458.add (1 * 1)) [.func (.func 90) [].toArray [].toArray, .func (.func 91) [].toArray [].toArray]) () ((hF.1 rfl).drop (1 * 1))))) fun _ => (DF.und () (fun _ => .pointer (some (q3458.add (1 * 1)))) (fun _ K => CellsAt K (q3458.add (1 * 1)) [.func (.func 90) [].toArray [].toArray, .func (.func 91) [].toArray [].toArray]) (fun _ _ _ h x => x.mono h) (by kernel_rfl) rfl (fun a w K hS hA hF => TG.pa hS hA (fb 0 U168 rfl rfl rfl rfl Z166 (finF (f := fun _ => .pointer (some (q3458.add (1 * 1)))) (G := fun _ K => CellsAt K (q3458.add (1 * 1)) [.func (.func 90) [].toArray [].toArray, .func (.func 91) [].toArray [].toArray]) () (hF.1 rfl)))) fun _ => (DF.det rfl (fun a w K hS hA hF => TG.pa hS hA (ld G166 rfl rfl ((sS 0 rfl (hF.1 rfl)).take 1) rfl fin1)) (dt rfl (ld G111 rfl rfl (sS 6 rfl hK10) rfl fin1) (dt rfl (m1 rfl fin1) (dt rfl (m1 rfl fin1) (dt rfl (ldA G116 Z116 rfl rfl (sS 1 rfl hK2854) rfl fin1) (DF.nil fun K3461 hF => ?_)))))))))
               obtain ⟨hu3460, hu3459, hu3457, _⟩ := hF
               obtain ⟨t3478, hx3479, hr3480⟩ := bd_some hr3453
               refine clI C90 Tryz.func90 rfl Tryz.ntmps90 rfl rfl rfl rfl (fun v w => (∃ (hd3481 : List Hd) (as3482 : List Adr), v = .tuple #[] ∧ St M W H [K3461, K2853, K2437, K1212, K714, K711, K9, K5, H] ([(8, Own.list (some ⟨b2435, 0, none⟩) cap1719 116 6 encErratum l1729), (6, Own.blk l1214 (O1217 .busy none)), (7, Own.blk dB1215 (.deferred (some []))), (5, Own.list ad444 cap445 113 1 encV hd3481)] ++ grp 115 3 encentry 1000 as3482 t3478) w ∧ Grid hd3481 as3482 t3478 ∧ hd3481.length = hd440.length)) ?_ ?_
               ·refine sq (rg (bI (cs := [.int .i64 x2432.number, .int .i64 x2432.day, .int .u8 x2432.kind, .int .i64 x2432.anchor, .string (bs x2432.text), .int .i64 x2432.new_]) rfl rfl rfl fun q3485 K3486 hK3487 => (on (rg (m1 rfl (nl rfl rfl (fb 5 U110 rfl rfl rfl rfl Z108 (ld G108 rfl rfl ((sS 4 rfl hK1213).drop 5) rfl (m1 rfl ?_)))))))))
                obtain ⟨x3488, hx3489, hr3490⟩ := bd_some hx3479
                obtain ⟨ad3491, cap3492, ha3493, hh3494⟩ := hG2204.at hx3489
                refine TG.addr 5 rfl (lt_of0 hh3494) fun b3495 h => ?_; subst h
                refine iaP U108 Z113 rfl rfl rfl rfl (Nat.lt_of_lt_of_eq (lt_of hh3494) hln2205) (ld G113 rfl rfl (sE 5 rfl (fun _ => rfl) hh3494) rfl (m1 rfl ?_))
                obtain ⟨x3496, hx3497, hr3498⟩ := bd_some hr3490
                refine TG.addr (1000 + t3075.2.1) (gk rfl (gk rfl (gk rfl (gk rfl (gget ha3493 hx3489))))) (lt_of0 hx3497) fun b3499 h => ?_; subst h
                refine iaP U113 Z115 rfl rfl rfl rfl (lt_of hx3497) (fb 2 U115 rfl rfl rfl rfl Z4 (stE (enc := encentry) (1000 + t3075.2.1) (⟨x3496.paragraph, true⟩ : entry) (q := ⟨b3499, 0, none⟩) (j := t3075.1) (size := 3) (cs := [.bool true]) (off := 2) Z4 (ad2 (b := 2) rfl) rfl (gk rfl (gk rfl (gk rfl (gk rfl (gget ha3493 hx3489))))) (fun _ => rfl) hx3497 rfl rfl rfl rfl rfl (TG.eq (zk rfl (zk rfl (zk rfl (zk rfl (gset ha3493))))) ?_)))
                have hG3500 := hG2204.put hx3489 (lenS x3488 t3075.1 (⟨x3496.paragraph, true⟩ : entry))
                refine on ?_
                cases hr3498
                intro a w hS hA
                refine ret0 hA rfl ?_
                exact ⟨_, rfl, ⟨hd2202, as2203, rfl, hS.selH [1, 2, 3, 4, 5, 6, 7, 8, 9] rfl, hG3500, hln2205⟩⟩
               ·rintro a w v hA (⟨hd3481, as3482, rfl, hS, hG3483, hln3484⟩)
                refine putK rfl hA hS (on ?_)
                cases hr3480
                intro a w hS hA
                exact ⟨hd3481, as3482, hS.selH [1, 2, 3, 4, 5, 6, 7, 8] rfl, hA.cut tv, hG3483, hln3484⟩
              ·have hr3501 := if_n hb3452 hr3446
               by_cases hb3507 : x2432.kind = 2
               ·have hr3508 := if_p hb3507 hr3501
                refine drG 10 mixed (by kernel_rfl) rfl ?_
                refine DF.und (α := Addr) default (fun q => .slice (some q) 3 3) (fun (q : Addr) K => CellsAt K q [.func (.func 89) [].toArray [].toArray, .func (.func 90) [].toArray [].toArray, .func (.func 91) [].toArray [].toArray]) (fun _ _ _ h x => x.mono h) (by kernel_rfl) rfl (fun a w K hS hA hF => TG.pa hS hA (clK C57 rfl rfl rfl rfl (fun w H hH le => w57 hH hx3366) (by
                  rintro v_ K3509 ⟨q3510, rfl, hK3511⟩
                  exact finU (f := fun q => .slice (some q) 3 3) (G := (fun (q : Addr) K => CellsAt K q [.func (.func 89) [].toArray [].toArray, .func (.func 90) [].toArray [].toArray, .func (.func 91) [].toArray [].toArray])) _ (fun _ _ _ h x => x.mono h) hK3511))) fun q3513 => ?_
                refine dt rfl (fb 2 U116 rfl rfl rfl rfl Z5 fin1) (dt rfl (ld G5 rfl rfl (((sS 1 rfl hK2854).drop 2).take 1) rfl fin1) (DF.und () (fun _ => .pointer (some (q3513.add (2 * 1)))) (fun _ K => CellsAt K (q3513.add (2 * 1)) [.func (.func 91) [].toArray [].toArray]) (fun _ _ _ h x => x.mono h) (by kernel_rfl) rfl (fun a w K hS hA hF => TG.pa hS hA (iaP (j := 2) U169 Z168 rfl rfl rfl (by omega) (by decide) (finF (f := fun _ => .pointer (some (q3513.add (2 * 1)))) (G := fun _ K => CellsAt K (q3513.add (2 * 1)) [.func (.func 91) [].toArray [].toArray]) () ((hF.1 rfl).drop (2 * 1))))) fun _ => (DF.und () (fun _ => .pointer (some (q3513.add (2 * 1)))) (fun _ K => CellsAt K (q3513.add (2 * 1)) [.func (.func 91) [].toArray [].toArray]) (fun _ _ _ h x => x.mono h) (by kernel_rfl) rfl (fun a w K hS hA hF => TG.pa hS hA (fb 0 U168 rfl rfl rfl rfl Z166 (finF (f := fun _ => .pointer (some (q3513.add (2 * 1)))) (G := fun _ K => CellsAt K (q3513.add (2 * 1)) [.func (.func 91) [].toArray [].toArray]) () (hF.1 rfl)))) fun _ => (DF.det rfl (fun a w K hS hA hF => TG.pa hS hA (ld G166 rfl rfl (sS 0 rfl (hF.1 rfl)) rfl fin1)) (dt rfl (ld G111 rfl rfl (sS 6 rfl hK10) rfl fin1) (dt rfl (m1 rfl fin1) (dt rfl (m1 rfl fin1) (dt rfl (ldA G116 Z116 rfl rfl (sS 1 rfl hK2854) rfl fin1) (DF.nil fun K3516 hF => ?_)))))))))
                obtain ⟨hu3515, hu3514, hu3512, _⟩ := hF
                obtain ⟨t3547, hx3548, hr3549⟩ := bd_some hr3508
                refine clI C91 Tryz.func91 rfl Tryz.ntmps91 rfl rfl rfl rfl (fun v w => (∃ (hd3550 : List Hd) (as3551 : List Adr), v = .tuple #[] ∧ St M W H [K3516, K2853, K2437, K1212, K714, K711, K9, K5, H] ([(8, Own.list (some ⟨b2435, 0, none⟩) cap1719 116 6 encErratum l1729), (6, Own.blk l1214 (O1217 .busy none)), (7, Own.blk dB1215 (.deferred (some []))), (5, Own.list ad444 cap445 113 1 encV hd3550)] ++ grp 115 3 encentry 1000 as3551 t3547) w ∧ Grid hd3550 as3551 t3547 ∧ hd3550.length = hd440.length)) ?_ ?_
                ·refine sq (rg (bI (cs := [.int .i64 x2432.number, .int .i64 x2432.day, .int .u8 x2432.kind, .int .i64 x2432.anchor, .string (bs x2432.text), .int .i64 x2432.new_]) rfl rfl rfl fun q3554 K3555 hK3556 => (on ?_)))
                 obtain ⟨x3557, hx3558, hr3559⟩ := bd_some hx3548
                 obtain ⟨ad3560, cap3561, ha3562, hh3563⟩ := hG2204.at hx3558
                 refine TG.addr 5 rfl (lt_of0 hh3563) fun b3564 h => ?_; subst h
                 obtain ⟨hk3565, hr3566⟩ := chk_some hr3559
                 refine TG.focus [(8, Own.list (some ⟨b2435, 0, none⟩) cap1719 116 6 encErratum l1729), (6, Own.blk l1214 (O1217 .busy none)), (7, Own.blk dB1215 (.deferred (some []))), (5, Own.list (some ⟨b3564, 0, none⟩) cap445 113 1 encV hd2202)] 10 (b := 1000) ha3562 hx3558 ?_
                 obtain ⟨hk3575, hr3576⟩ := chk_some hr3566
                 obtain ⟨hk3577, hr3578⟩ := chk_some hr3576
                 refine drG2 22 21 mixed (by kernel_rfl) rfl rfl (DG.detA rfl rfl rfl (fun τ a w K hS hA hF => TG.pa hS hA (m1 rfl fin1)) (DG.detA rfl rfl rfl (fun τ a w K hS hA hF => TG.pa hS hA (nl rfl rfl fin1)) (DG.detA rfl rfl rfl (fun τ a w K hS hA hF => TG.pa hS hA (fb 5 U110 rfl rfl rfl rfl Z108 fin1)) (DG.detA rfl rfl rfl (fun τ a w K hS hA hF => TG.pa hS hA (ld G108 rfl rfl ((sS 5 rfl hK1213).drop 5) rfl fin1)) (DG.detA rfl rfl rfl (fun τ a w K hS hA hF => TG.pa hS hA (m1 rfl fin1)) (DG.det (fun τ => τ = ([(10, Own.list ad3560 cap3561 115 3 encentry x3557), (8, Own.list (some ⟨b2435, 0, none⟩) cap1719 116 6 encErratum l1729), (6, Own.blk l1214 (O1217 .busy none)), (7, Own.blk dB1215 (.deferred (some []))), (5, Own.list (some ⟨b3564, 0, none⟩) cap445 113 1 encV hd2202)] ++ grp 115 3 encentry 1000 (as2203.set t3075.2.1 (none, 0)) (s2201.2.set t3075.2.1 []))) rfl rfl (.inr (by kernel_rfl)) (fun _ h => by cases h) rfl rfl (fun τ hτ a w K hS hA hF => by subst hτ <;> exact TG.pa hS hA (m1 rfl fin1)) (DG.det (fun τ => τ = ([(10, Own.list ad3560 cap3561 115 3 encentry x3557), (8, Own.list (some ⟨b2435, 0, none⟩) cap1719 116 6 encErratum l1729), (6, Own.blk l1214 (O1217 .busy none)), (7, Own.blk dB1215 (.deferred (some []))), (5, Own.list (some ⟨b3564, 0, none⟩) cap445 113 1 encV hd2202)] ++ grp 115 3 encentry 1000 (as2203.set t3075.2.1 (none, 0)) (s2201.2.set t3075.2.1 []))) rfl rfl (.inr (by kernel_rfl)) (fun _ h => by cases h) rfl rfl (fun τ hτ a w K hS hA hF => by subst hτ <;> exact TG.pa hS hA (nl rfl rfl fin1)) (DG.det (fun τ => τ = ([(10, Own.list ad3560 cap3561 115 3 encentry x3557), (8, Own.list (some ⟨b2435, 0, none⟩) cap1719 116 6 encErratum l1729), (6, Own.blk l1214 (O1217 .busy none)), (7, Own.blk dB1215 (.deferred (some []))), (5, Own.list (some ⟨b3564, 0, none⟩) cap445 113 1 encV hd2202)] ++ grp 115 3 encentry 1000 (as2203.set t3075.2.1 (none, 0)) (s2201.2.set t3075.2.1 []))) rfl rfl (.inr (by kernel_rfl)) (fun _ h => by cases h) rfl rfl (fun τ hτ a w K hS hA hF => by subst hτ <;> exact TG.pa hS hA (fb 5 U110 rfl rfl rfl rfl Z108 fin1)) (DG.det (fun τ => τ = ([(10, Own.list ad3560 cap3561 115 3 encentry x3557), (8, Own.list (some ⟨b2435, 0, none⟩) cap1719 116 6 encErratum l1729), (6, Own.blk l1214 (O1217 .busy none)), (7, Own.blk dB1215 (.deferred (some []))), (5, Own.list (some ⟨b3564, 0, none⟩) cap445 113 1 encV hd2202)] ++ grp 115 3 encentry 1000 (as2203.set t3075.2.1 (none, 0)) (s2201.2.set t3075.2.1 []))) rfl rfl (.inr (by kernel_rfl)) (fun _ h => by cases h) rfl rfl (fun τ hτ a w K hS hA hF => by subst hτ <;> exact TG.pa hS hA (ld G108 rfl rfl ((sS 5 rfl hK1213).drop 5) rfl fin1)) (DG.det (fun τ => τ = ([(10, Own.list ad3560 cap3561 115 3 encentry x3557), (8, Own.list (some ⟨b2435, 0, none⟩) cap1719 116 6 encErratum l1729), (6, Own.blk l1214 (O1217 .busy none)), (7, Own.blk dB1215 (.deferred (some []))), (5, Own.list (some ⟨b3564, 0, none⟩) cap445 113 1 encV hd2202)] ++ grp 115 3 encentry 1000 (as2203.set t3075.2.1 (none, 0)) (s2201.2.set t3075.2.1 []))) rfl rfl (.inr (by kernel_rfl)) (fun _ h => by cases h) rfl rfl (fun τ hτ a w K hS hA hF => by subst hτ <;> exact TG.pa hS hA (m1 rfl fin1)) (DG.det (fun τ => τ = ([(10, Own.list ad3560 cap3561 115 3 encentry x3557), (8, Own.list (some ⟨b2435, 0, none⟩) cap1719 116 6 encErratum l1729), (6, Own.blk l1214 (O1217 .busy none)), (7, Own.blk dB1215 (.deferred (some []))), (5, Own.list (some ⟨b3564, 0, none⟩) cap445 113 1 encV hd2202)] ++ grp 115 3 encentry 1000 (as2203.set t3075.2.1 (none, 0)) (s2201.2.set t3075.2.1 []))) rfl rfl (.inr (by kernel_rfl)) (fun _ h => by cases h) rfl rfl (fun τ hτ a w K hS hA hF => by subst hτ <;> exact TG.pa hS hA (iaP U108 Z113 rfl rfl rfl rfl (Nat.lt_of_lt_of_eq (lt_of hh3563) hln2205) fin1)) ?_)))))))))))
                 refine DG.det (fun τ => τ = ([(10, Own.list ad3560 cap3561 115 3 encentry x3557), (8, Own.list (some ⟨b2435, 0, none⟩) cap1719 116 6 encErratum l1729), (6, Own.blk l1214 (O1217 .busy none)), (7, Own.blk dB1215 (.deferred (some []))), (5, Own.list (some ⟨b3564, 0, none⟩) cap445 113 1 encV hd2202)] ++ grp 115 3 encentry 1000 (as2203.set t3075.2.1 (none, 0)) (s2201.2.set t3075.2.1 []))) rfl rfl (.inr (by kernel_rfl)) (fun _ h => by cases h) rfl rfl (fun τ hτ a w K hS hA hF => by subst hτ <;> exact TG.pa hS hA (ld G113 rfl rfl (sE 5 rfl (fun _ => rfl) hh3563) rfl fin1)) (DG.det (fun τ => τ = ([(10, Own.list ad3560 cap3561 115 3 encentry x3557), (8, Own.list (some ⟨b2435, 0, none⟩) cap1719 116 6 encErratum l1729), (6, Own.blk l1214 (O1217 .busy none)), (7, Own.blk dB1215 (.deferred (some []))), (5, Own.list (some ⟨b3564, 0, none⟩) cap445 113 1 encV hd2202)] ++ grp 115 3 encentry 1000 (as2203.set t3075.2.1 (none, 0)) (s2201.2.set t3075.2.1 []))) rfl rfl (.inr (by kernel_rfl)) (fun _ h => by cases h) rfl rfl (fun τ hτ a w K hS hA hF => by subst hτ <;> exact TG.pa hS hA (m1 rfl fin1)) (DG.det (fun τ => τ = ([(10, Own.list ad3560 cap3561 115 3 encentry x3557), (8, Own.list (some ⟨b2435, 0, none⟩) cap1719 116 6 encErratum l1729), (6, Own.blk l1214 (O1217 .busy none)), (7, Own.blk dB1215 (.deferred (some []))), (5, Own.list (some ⟨b3564, 0, none⟩) cap445 113 1 encV hd2202)] ++ grp 115 3 encentry 1000 (as2203.set t3075.2.1 (none, 0)) (s2201.2.set t3075.2.1 []))) rfl rfl (.inr (by kernel_rfl)) (fun _ h => by cases h) rfl rfl (fun τ hτ a w K hS hA hF => by subst hτ <;> exact TG.pa hS hA (adI rfl rfl rfl hk3565 fin1)) (DG.det (fun τ => τ = ([(10, Own.list ad3560 cap3561 115 3 encentry x3557), (8, Own.list (some ⟨b2435, 0, none⟩) cap1719 116 6 encErratum l1729), (6, Own.blk l1214 (O1217 .busy none)), (7, Own.blk dB1215 (.deferred (some []))), (5, Own.list (some ⟨b3564, 0, none⟩) cap445 113 1 encV hd2202)] ++ grp 115 3 encentry 1000 (as2203.set t3075.2.1 (none, 0)) (s2201.2.set t3075.2.1 []))) rfl rfl (.inr (by kernel_rfl)) (fun _ h => by cases h) rfl rfl (fun τ hτ a w K hS hA hF => by subst hτ <;> exact TG.pa hS hA (fb 5 U116 rfl rfl rfl rfl Z3 fin1)) (DG.det (fun τ => τ = ([(10, Own.list ad3560 cap3561 115 3 encentry x3557), (8, Own.list (some ⟨b2435, 0, none⟩) cap1719 116 6 encErratum l1729), (6, Own.blk l1214 (O1217 .busy none)), (7, Own.blk dB1215 (.deferred (some []))), (5, Own.list (some ⟨b3564, 0, none⟩) cap445 113 1 encV hd2202)] ++ grp 115 3 encentry 1000 (as2203.set t3075.2.1 (none, 0)) (s2201.2.set t3075.2.1 []))) rfl rfl (.inr (by kernel_rfl)) (fun _ h => by cases h) rfl rfl (fun τ hτ a w K hS hA hF => by subst hτ <;> exact TG.pa hS hA (ld G3 rfl rfl ((sS 1 rfl hK3556).drop 5) rfl fin1)) (DG.det (fun τ => τ = ([(10, Own.list ad3560 cap3561 115 3 encentry x3557), (8, Own.list (some ⟨b2435, 0, none⟩) cap1719 116 6 encErratum l1729), (6, Own.blk l1214 (O1217 .busy none)), (7, Own.blk dB1215 (.deferred (some []))), (5, Own.list (some ⟨b3564, 0, none⟩) cap445 113 1 encV hd2202)] ++ grp 115 3 encentry 1000 (as2203.set t3075.2.1 (none, 0)) (s2201.2.set t3075.2.1 []))) rfl rfl (.inr (by kernel_rfl)) (fun _ h => by cases h) rfl rfl (fun τ hτ a w K hS hA hF => by subst hτ <;> exact TG.pa hS hA (fb 4 U116 rfl rfl rfl rfl Z9 fin1)) (DG.det (fun τ => τ = ([(10, Own.list ad3560 cap3561 115 3 encentry x3557), (8, Own.list (some ⟨b2435, 0, none⟩) cap1719 116 6 encErratum l1729), (6, Own.blk l1214 (O1217 .busy none)), (7, Own.blk dB1215 (.deferred (some []))), (5, Own.list (some ⟨b3564, 0, none⟩) cap445 113 1 encV hd2202)] ++ grp 115 3 encentry 1000 (as2203.set t3075.2.1 (none, 0)) (s2201.2.set t3075.2.1 []))) rfl rfl (.inr (by kernel_rfl)) (fun _ h => by cases h) rfl rfl (fun τ hτ a w K hS hA hF => by subst hτ <;> exact TG.pa hS hA (ld G9 rfl rfl (((sS 1 rfl hK3556).drop 4).take 1) rfl fin1)) (DG.det (fun τ => τ = ([(10, Own.list ad3560 cap3561 115 3 encentry x3557), (8, Own.list (some ⟨b2435, 0, none⟩) cap1719 116 6 encErratum l1729), (6, Own.blk l1214 (O1217 .busy none)), (7, Own.blk dB1215 (.deferred (some []))), (5, Own.list (some ⟨b3564, 0, none⟩) cap445 113 1 encV hd2202)] ++ grp 115 3 encentry 1000 (as2203.set t3075.2.1 (none, 0)) (s2201.2.set t3075.2.1 []))) rfl rfl (.inr (by kernel_rfl)) (fun _ h => by cases h) rfl rfl (fun τ hτ a w K hS hA hF => by subst hτ <;> exact TG.pa hS hA (bu (cs := [.int .i64 x2432.new_, .string (bs x2432.text)]) T10.B52 rfl rfl rfl fin1)) (DG.det (fun τ => τ = ([(10, Own.list ad3560 cap3561 115 3 encentry x3557), (8, Own.list (some ⟨b2435, 0, none⟩) cap1719 116 6 encErratum l1729), (6, Own.blk l1214 (O1217 .busy none)), (7, Own.blk dB1215 (.deferred (some []))), (5, Own.list (some ⟨b3564, 0, none⟩) cap445 113 1 encV hd2202)] ++ grp 115 3 encentry 1000 (as2203.set t3075.2.1 (none, 0)) (s2201.2.set t3075.2.1 []))) rfl rfl (.inr (by kernel_rfl)) (fun _ h => by cases h) rfl rfl (fun τ hτ a w K hS hA hF => by subst hτ <;> exact TG.pa hS hA (bu (cs := [.int .i64 x2432.new_, .string (bs x2432.text), .bool false]) T10.B115 rfl rfl rfl fin1)) ?_))))))))
                 refine DG.und (α := Option Addr × Nat) (none, 0) (fun q => .slice q.1 1 q.2) (fun (q : Option Addr × Nat) K => Sl (Flat encentry) 3 K q.1 q.2 ([(⟨(⟨x2432.new_, x2432.text⟩ : Paragraph), false⟩ : entry)] : List entry)) (fun τ => τ = ([(10, Own.list ad3560 cap3561 115 3 encentry x3557), (8, Own.list (some ⟨b2435, 0, none⟩) cap1719 116 6 encErratum l1729), (6, Own.blk l1214 (O1217 .busy none)), (7, Own.blk dB1215 (.deferred (some []))), (5, Own.list (some ⟨b3564, 0, none⟩) cap445 113 1 encV hd2202)] ++ grp 115 3 encentry 1000 (as2203.set t3075.2.1 (none, 0)) (s2201.2.set t3075.2.1 []))) rfl rfl (.inr (by kernel_rfl)) (fun _ h => by cases h) (fun _ _ _ h x => x.mono (Flat.mono _) h) (by kernel_rfl) rfl rfl (fun τ hτ a w K hS hA hF => by subst hτ <;> exact TG.pa hS hA (bS (cs := [.int .i64 x2432.new_, .string (bs x2432.text), .bool false]) T10.E113 rfl rfl rfl rfl fun q3567 K3568 hq3569 hK3570 => by
                   have hl3571 : Sl (Flat encentry) 3 K3568 (some q3567) 1 ([(⟨(⟨x2432.new_, x2432.text⟩ : Paragraph), false⟩ : entry)] : List entry) := Sl.litR (css := [[.int .i64 x2432.new_, .string (bs x2432.text), .bool false]]) (l := ([(⟨(⟨x2432.new_, x2432.text⟩ : Paragraph), false⟩ : entry)] : List entry)) ⟨⟨rfl, rfl, rfl⟩, tv⟩ hq3569 hK3570 rfl
                   have := hl3571.len
                   exact finU (f := fun q => .slice q.1 1 q.2) (G := (fun (q : Option Addr × Nat) K => Sl (Flat encentry) 3 K q.1 q.2 ([(⟨(⟨x2432.new_, x2432.text⟩ : Paragraph), false⟩ : entry)] : List entry))) (_, _) (fun _ _ _ h x => x.mono (Flat.mono _) h) hl3571)) ?_
                 rintro ⟨ad3573, cap3574⟩
                 refine DG.turn (α := Option Addr × Nat) (none, 0) (fun q => .slice q.1 ((x3557.take (((t3075.1 : Int) + 1).toNat) ++ [(⟨(⟨x2432.new_, x2432.text⟩ : Paragraph), false⟩ : entry)] ++ x3557.drop (((t3075.1 : Int) + 1).toNat)).length) q.2) (fun _ _ => True) (fun q => ([(10, Own.list q.1 q.2 115 3 encentry (x3557.take (((t3075.1 : Int) + 1).toNat) ++ [(⟨(⟨x2432.new_, x2432.text⟩ : Paragraph), false⟩ : entry)] ++ x3557.drop (((t3075.1 : Int) + 1).toNat))), (8, Own.list (some ⟨b2435, 0, none⟩) cap1719 116 6 encErratum l1729), (6, Own.blk l1214 (O1217 .busy none)), (7, Own.blk dB1215 (.deferred (some []))), (5, Own.list (some ⟨b3564, 0, none⟩) cap445 113 1 encV hd2202)] ++ grp 115 3 encentry 1000 (as2203.set t3075.2.1 (none, 0)) (s2201.2.set t3075.2.1 []))) rfl (fun _ _ _ _ h => h) (by kernel_rfl) rfl rfl (fun a w K hS hA hF => TG.pa hS hA (insO 10 (enc := encentry) rfl (fun _ => rfl) (fun _ => rfl) (((t3075.1 : Int) + 1).toNat) (⟨(⟨x2432.new_, x2432.text⟩ : Paragraph), false⟩ : entry) (l := x3557) Tryz.ins92 C92 rfl rfl rfl rfl rfl rfl rfl (hF.1 rfl) 0 rfl (by omega) hk3577 hk3575 fun ad3579 cap3580 => finT (f := fun q => .slice q.1 ((x3557.take (((t3075.1 : Int) + 1).toNat) ++ [(⟨(⟨x2432.new_, x2432.text⟩ : Paragraph), false⟩ : entry)] ++ x3557.drop (((t3075.1 : Int) + 1).toNat)).length) q.2) (G := fun _ _ => True) (σ1 := fun q => ([(10, Own.list q.1 q.2 115 3 encentry (x3557.take (((t3075.1 : Int) + 1).toNat) ++ [(⟨(⟨x2432.new_, x2432.text⟩ : Paragraph), false⟩ : entry)] ++ x3557.drop (((t3075.1 : Int) + 1).toNat))), (8, Own.list (some ⟨b2435, 0, none⟩) cap1719 116 6 encErratum l1729), (6, Own.blk l1214 (O1217 .busy none)), (7, Own.blk dB1215 (.deferred (some []))), (5, Own.list (some ⟨b3564, 0, none⟩) cap445 113 1 encV hd2202)] ++ grp 115 3 encentry 1000 (as2203.set t3075.2.1 (none, 0)) (s2201.2.set t3075.2.1 []))) (_, _) tv)) ?_
                 rintro ⟨ad3579, cap3580⟩
                 refine DG.nil fun K3581 hF => ?_
                 obtain ⟨_, hu3572, _⟩ := hF
                 have := hu3572.len
                 refine iaP U108 Z113 rfl rfl rfl rfl (Nat.lt_of_lt_of_eq (lt_of hh3563) hln2205) (stE 5 (ad3579, (x3557.take (((t3075.1 : Int) + 1).toNat) ++ [(⟨(⟨x2432.new_, x2432.text⟩ : Paragraph), false⟩ : entry)] ++ x3557.drop (((t3075.1 : Int) + 1).toNat)).length, cap3580) (q := ⟨b3564, 0, none⟩) (j := t3075.2.1) (size := 1) (cs := [(Value.slice ad3579 (x3557.take (((t3075.1 : Int) + 1).toNat) ++ [(⟨(⟨x2432.new_, x2432.text⟩ : Paragraph), false⟩ : entry)] ++ x3557.drop (((t3075.1 : Int) + 1).toNat)).length cap3580)]) (off := 0) Z113 rfl rfl rfl (fun _ => rfl) hh3563 rfl rfl rfl rfl rfl (TG.absorb [(10, Own.list ad3579 cap3580 115 3 encentry (x3557.take (((t3075.1 : Int) + 1).toNat) ++ [(⟨(⟨x2432.new_, x2432.text⟩ : Paragraph), false⟩ : entry)] ++ x3557.drop (((t3075.1 : Int) + 1).toNat))), (8, Own.list (some ⟨b2435, 0, none⟩) cap1719 116 6 encErratum l1729), (6, Own.blk l1214 (O1217 .busy none)), (7, Own.blk dB1215 (.deferred (some []))), (5, Own.list (some ⟨b3564, 0, none⟩) cap445 113 1 encV (hd2202.set t3075.2.1 (ad3579, (x3557.take (((t3075.1 : Int) + 1).toNat) ++ [(⟨(⟨x2432.new_, x2432.text⟩ : Paragraph), false⟩ : entry)] ++ x3557.drop (((t3075.1 : Int) + 1).toNat)).length, cap3580)))] (B := [(8, Own.list (some ⟨b2435, 0, none⟩) cap1719 116 6 encErratum l1729), (6, Own.blk l1214 (O1217 .busy none)), (7, Own.blk dB1215 (.deferred (some []))), (5, Own.list (some ⟨b3564, 0, none⟩) cap445 113 1 encV (hd2202.set t3075.2.1 (ad3579, (x3557.take (((t3075.1 : Int) + 1).toNat) ++ [(⟨(⟨x2432.new_, x2432.text⟩ : Paragraph), false⟩ : entry)] ++ x3557.drop (((t3075.1 : Int) + 1).toNat)).length, cap3580)))]) 10 (b := 1000) (j := t3075.2.1) rfl rfl (TG.eq (by rw [List.set_set, List.set_set]) ?_)))
                 have hG3582 := hG2204.new t3075.2.1 (x3557.take (((t3075.1 : Int) + 1).toNat) ++ [(⟨(⟨x2432.new_, x2432.text⟩ : Paragraph), false⟩ : entry)] ++ x3557.drop (((t3075.1 : Int) + 1).toNat)) ad3579 cap3580
                 have hln3583 : (hd2202.set t3075.2.1 (ad3579, (x3557.take (((t3075.1 : Int) + 1).toNat) ++ [(⟨(⟨x2432.new_, x2432.text⟩ : Paragraph), false⟩ : entry)] ++ x3557.drop (((t3075.1 : Int) + 1).toNat)).length, cap3580)).length = hd440.length := (lenS _ _ _).trans hln2205
                 refine on ?_
                 cases hr3578
                 intro a w hS hA
                 refine ret0 hA rfl ?_
                 exact ⟨_, rfl, ⟨(hd2202.set t3075.2.1 (ad3579, (x3557.take (((t3075.1 : Int) + 1).toNat) ++ [(⟨(⟨x2432.new_, x2432.text⟩ : Paragraph), false⟩ : entry)] ++ x3557.drop (((t3075.1 : Int) + 1).toNat)).length, cap3580)), (as2203.set t3075.2.1 (ad3579, cap3580)), rfl, hS.selH [2, 3, 4, 5, 6, 7, 8, 9, 10] rfl, hG3582, hln3583⟩⟩
                ·rintro a w v hA (⟨hd3550, as3551, rfl, hS, hG3552, hln3553⟩)
                 refine putK rfl hA hS (on ?_)
                 cases hr3549
                 intro a w hS hA
                 exact ⟨hd3550, as3551, hS.selH [1, 2, 3, 4, 5, 6, 7, 8] rfl, hA.cut tv, hG3552, hln3553⟩
               ·have hr3584 := if_n hb3507 hr3501
                cases hr3584
            ·have hr3590 := if_f hc3363 hx3357
             refine sk ?_
             cases hr3590
             intro a w hS hA
             exact ⟨hd2202, as2203, hS, hA.cut tv, hG2204, hln2205⟩
           ·rintro a w ⟨hd3359, as3360, hS, hA, hG3361, hln3362⟩
            refine TG.ap ?_ hS hA
            cases hr3358
            refine eR 6 none hO1219 rfl fun w hS => ?_
            exact ⟨hd3359, as3360, rfl, hS.selH [1, 2, 3, 4, 5, 6, 7] rfl, hG3361, hln3362⟩
         ·rintro a w v hA (⟨hd2848, as2849, rfl, hS, hG2850, hln2851⟩)
          refine putK rfl hA hS (gt' hb2649 rfl (nt rfl rfl (pf hb2649 rfl rfl (on ?_))))
          cases hr2847
          intro a w hS hA
          exact ⟨hd2848, as2849, hS, hA.cut ⟨rfl, rfl, rfl, rfl, rfl, rfl, tv⟩, hG2850, hln2851⟩
       ·rintro a w ⟨hd2645, as2646, hS, hA, hG2647, hln2648⟩
        refine TG.ap ?_ hS hA
        refine cb rfl (fun hc3594 => ?_) (fun hc3594 => ?_)
        ·have hr3595 := if_p hc3594 hr2644
         refine rt_ ?_
         cases hr3595
         obtain rfl := Fin.out hz2207
         refine TG.del 8 ?_
         cases hr2195
         intro a w hS hA
         refine ret0 hA rfl ?_
         exact ⟨_, rfl, ⟨hd2645, as2646, hS.selH [1, 2, 3, 4, 5, 6] rfl, hG2647, hln2648⟩⟩
        ·have hr3596 := if_f hc3594 hr2644
         refine sk (rg (adI rfl rfl rfl (by omega) (m1 rfl (on ?_))))
         cases hr3596
         intro a w hS hA
         exact ⟨_, hz2207, hd2645, as2646, hS.selH [1, 2, 3, 4, 5, 6] rfl, hA.cut ⟨rfl, rfl, rfl, rfl, rfl, tv⟩, hG2647, hln2648⟩
      ·have hr3597 := if_n hc2212 hr2206
       refine xt rfl ?_
       cases hr3597
       obtain rfl := Fin.out hz2207
       intro a w hS hA
       exact ⟨_, rfl, hd2202, as2203, hS, hA.cut tv, hG2204, hln2205⟩
    ·rintro a w ⟨t2196, rfl, hd2197, as2198, hS, hA, hG2199, hln2200⟩
     refine TG.ap ?_ hS hA
     refine TG.del 8 ?_
     cases hr2195
     intro a w hS hA
     refine ret0 hA rfl ?_
     exact ⟨_, rfl, ⟨hd2197, as2198, hS, hG2199, hln2200⟩⟩
  ·rintro l1214 dB1215 O1217 tm1216 a w hO1219 hA (⟨hd1704, as1705, hS, hG1706, hln1707⟩)
   refine TG.ap ?_ hS hA
   refine elN 6 hO1219 rfl (sq (rg (ld G111 rfl rfl (sS 3 rfl hK10) rfl (a1 rfl (on (rt_ (TG.stillG [(7, Own.blk dB1215 (.deferred (some []))), (5, Own.list ad444 cap445 113 1 encV hd1704)] (B := [(7, Own.blk dB1215 (.deferred (some [])))]) 5 (b := 1000) hG1706 rfl rfl (fun _ => rfl) fun K3598 hl3599 => ?_)))))))
   have := hl3599.len
   cases hr1703
   refine rtM (rtT 7 rfl (rt0 ?_))
   intro a w hS hA
   refine ret1 hA rfl rfl ?_
   exact ⟨⟨_, _, rfl, (hK1213.mono (hS.grow 1 rfl)), ⟨ad1, cap2, ad444, cap445, (by rw [show hd440.length = t1701.length from (hln1707.symm.trans hG1706.hlen)]), (hl3.mono (RPart.mono) (hS.grow 6 rfl)), (hl3599.mono (RSl.mono (Flat.mono _)) (hS.grow 0 rfl))⟩⟩, hS.ext⟩

theorem w39 {M : Prop} {W : World} {H : Hp} (hH : H.le (hp W)) {cs_v_0 : List Value} (v_0 : Volume) (h_v_0 : (RVolume) H cs_v_0 v_0) {ad_errata : Option Addr} {cap_errata : Nat} {errata : List Erratum} (h_errata : Sl (Flat encErratum) 6 H ad_errata cap_errata errata) {r : List printed} (hr : m39 v_0 errata = some r) : Calls Tryz.prog 39 [.agg cs_v_0.toArray, .slice ad_errata errata.length cap_errata].toArray W (RetK M H W (fun v K => ∃ (ad0 : Option Addr) (cap0 : Nat), v = .slice ad0 r.length cap0 ∧ Sl (Flat encprinted) 6 K ad0 cap0 r)) := by
 have hh_v_0 := h_v_0
 obtain ⟨ad1, cap2, rfl, hl3⟩ := h_v_0
 have := hl3.len
 have := h_errata.len
 unfold m39 at hr
 refine enterG (M := M) Tryz.func39 rfl Tryz.ntmps39 rfl hH ?_
 refine sq (rg (bI (cs := [.int .i64 v_0.number, .int .i64 v_0.bound, .int .i64 v_0.height, .int .i64 v_0.width, .slice ad1 v_0.parts.length cap2]) rfl rfl rfl fun q4 K5 hK6 => (a1 rfl (on (sq (rg (ldA G42 Z42 rfl rfl (sS 0 rfl hK6) rfl (m1 rfl (fb 1 U42 rfl rfl rfl rfl Z3 (ld G3 rfl rfl (((sS 0 rfl hK6).drop 1).take 1) rfl ?_))))))))))
 obtain ⟨r7, hx8, hr9⟩ := bd_some hr
 refine clK C35 rfl rfl rfl rfl (fun w H hH le => w35 hH v_0 (RVolume.mono _ _ _ _ (le.at 1 rfl) hh_v_0) (h_errata.mono (Flat.mono _) (le.at 1 rfl)) v_0.bound hx8) ?_
 rintro v_ K10 ⟨q11, cs12, rfl, hc13, hr14⟩
 have hr15 := hr14
 obtain ⟨ad16, cap17, ad19, cap20, rfl, hl18, hl21⟩ := hr14
 have := hl18.len
 have := hl21.len
 refine a1 rfl (on (sq (rg (a1 rfl (on (sq (sq (rg (m1 rfl (nl rfl rfl (fb 5 U110 rfl rfl rfl rfl Z108 ?_)))))))))))
 refine ld G108 rfl rfl ((sS 0 rfl hc13).drop 5) rfl (lnL U108 rfl rfl (m1 rfl (on (TG.nilRow 2 124 6 (TG.as 2 (z := Own.list none 0 124 6 encprinted ([] : List printed)) rfl rfl ?_)))))
 obtain ⟨e758, hl759, hr760⟩ := bd_some hr9
 refine jn (fun a w => ∃ (ad761 : Option Addr) (cap762 : Nat), St M W H [K10, K5, H] [(2, Own.list ad761 cap762 124 6 encprinted e758)] w ∧ Has [] 93 a [(4, .slice ad761 e758.length cap762)]) ?_ ?_
 ·refine bk ?_
  refine lp hl759 (fun s763 a w => ∃ (ad764 : Option Addr) (cap765 : Nat), St M W H [K10, K5, H] [(2, Own.list ad764 cap765 124 6 encprinted s763.2.2)] w ∧ Has [] 93 a [(2, .pointer (some q4)), (4, .slice ad764 s763.2.2.length cap765), (6, .int .i64 s763.2.1), (22, .slice ad19 r7.parts.length cap20), (23, .int .i64 (r7.parts.length : Int)), (24, .int .i64 (s763.1 : Int))]) ?_ ?_
  ·intro a w hS hA
   exact ⟨none, 0, hS, hA.cut ⟨rfl, rfl, rfl, rfl, rfl, rfl, tv⟩⟩
  ·rintro j s763 y768 hr766 hz767 a w ⟨ad764, cap765, hS, hA⟩
   refine TG.ap ?_ hS hA
   unfold m39_1 at hr766
   refine sq (rg (ltI rfl rfl rfl (on (sq ?_))))
   refine ci rfl (fun hc772 => ?_) (fun hc772 => ?_)
   ·have hr773 := if_p hc772 hr766
    refine sk (sq (bk (sq (rg (m1 rfl ?_)))))
    obtain ⟨x994, hx995, hr996⟩ := bd_some hr773
    obtain ⟨p997, rfl⟩ := hl21.adr hx995
    obtain ⟨cs998, hcs999, hq1000, hr1001⟩ := hl21.at hx995
    have hr1002 := hr1001
    obtain ⟨ad1003, cap1004, rfl, hl1005⟩ := hr1001
    have := hl1005.len
    refine iaP U108 Z113 rfl rfl rfl rfl (lt_of hx995) (ld G113 rfl rfl (sS 0 rfl hq1000) rfl (a1 rfl (a1 rfl (on (sq (rg (a1 rfl (a1 rfl (on (sq (sq ?_)))))))))))
    refine rg (m1 rfl (lnL U113 rfl rfl (m1 rfl (on ?_))))
    obtain ⟨e1203, hl1204, hr1205⟩ := bd_some hr996
    refine jn (fun a w => ∃ (ad1206 : Option Addr) (cap1207 : Nat), St M W H [K10, K5, H] [(2, Own.list ad1206 cap1207 124 6 encprinted e1203.2)] w ∧ Has [] 93 a [(2, .pointer (some q4)), (4, .slice ad1206 e1203.2.length cap1207), (6, .int .i64 s763.2.1), (9, .int .i64 e1203.1), (22, .slice (some p997) r7.parts.length cap20), (23, .int .i64 (r7.parts.length : Int)), (24, .int .i64 (s763.1 : Int))]) ?_ ?_
    ·refine bk ?_
     refine lp hl1204 (fun s1208 a w => ∃ (ad1209 : Option Addr) (cap1210 : Nat), St M W H [K10, K5, H] [(2, Own.list ad1209 cap1210 124 6 encprinted s1208.2.2.2)] w ∧ Has [] 93 a [(2, .pointer (some q4)), (4, .slice ad1209 s1208.2.2.2.length cap1210), (6, .int .i64 s763.2.1), (7, .int .i64 (s763.1 : Int)), (9, .int .i64 s1208.2.2.1), (10, .int .i64 (s1208.1 : Int)), (22, .slice (some p997) r7.parts.length cap20), (23, .int .i64 (r7.parts.length : Int)), (24, .int .i64 (s763.1 : Int)), (29, .slice ad1003 x994.length cap1004), (30, .int .i64 (x994.length : Int)), (31, .int .i64 (s1208.2.1 : Int))]) ?_ ?_
     ·intro a w hS hA
      exact ⟨ad764, cap765, hS, hA.cut ⟨rfl, rfl, rfl, rfl, rfl, rfl, rfl, rfl, rfl, rfl, rfl, rfl, tv⟩⟩
     ·rintro j s1208 y1213 hr1211 hz1212 a w ⟨ad1209, cap1210, hS, hA⟩
      refine TG.ap ?_ hS hA
      unfold m39_2 at hr1211
      refine sq (rg (ltI rfl rfl rfl (on (sq ?_))))
      refine ci rfl (fun hc1217 => ?_) (fun hc1217 => ?_)
      ·have hr1218 := if_p hc1217 hr1211
       refine sk (sq ?_)
       obtain ⟨t1276, hx1277, hr1278⟩ := bd_some hr1218
       refine jn (fun a w => ∃ (ad1279 : Option Addr) (cap1280 : Nat), St M W H [K10, K5, H] [(2, Own.list ad1279 cap1280 124 6 encprinted t1276.2.2)] w ∧ Has [] 93 a [(2, .pointer (some q4)), (4, .slice ad1279 t1276.2.2.length cap1280), (6, .int .i64 s763.2.1), (7, .int .i64 (s763.1 : Int)), (9, .int .i64 t1276.2.1), (10, .int .i64 (t1276.1 : Int)), (22, .slice (some p997) r7.parts.length cap20), (23, .int .i64 (r7.parts.length : Int)), (24, .int .i64 (s763.1 : Int)), (29, .slice ad1003 x994.length cap1004), (30, .int .i64 (x994.length : Int)), (31, .int .i64 (s1208.2.1 : Int))]) ?_ ?_
       ·refine bk (sq (rg ?_))
        obtain ⟨x1281, hx1282, hr1283⟩ := bd_some hx1277
        obtain ⟨p1284, rfl⟩ := hl1005.adr hx1282
        obtain ⟨cs1285, hcs1286, hq1287, hr1288⟩ := hl1005.at hx1282
        obtain rfl := hr1288
        refine iaP U113 Z115 rfl rfl rfl rfl (lt_of hx1282) (ldA G115 Z115 rfl rfl (sS 0 rfl hq1287) rfl (va (cs := [.int .i64 x1281.paragraph.anchor, .string (bs x1281.paragraph.text), .bool x1281.removed]) Tryz.zeroValue115 Z115 rfl rfl rfl rfl rfl rfl rfl rfl fun q1289 K1290 hK1291 => (on (sq (sq (rg (fb 2 U115 rfl rfl rfl rfl Z4 (ld G4 rfl rfl ((sS 0 rfl hK1291).drop 2) rfl (on ?_)))))))))
        refine cb rfl (fun hc1295 => ?_) (fun hc1295 => ?_)
        ·have hr1296 := if_p hc1295 hr1283
         refine xt rfl ?_
         cases hr1296
         intro a w hS hA
         exact ⟨ad1209, cap1210, hS.selH [1, 2, 3] rfl, hA.cut ⟨rfl, rfl, rfl, rfl, rfl, rfl, rfl, rfl, rfl, rfl, rfl, rfl, tv⟩⟩
        ·have hr1297 := if_f hc1295 hr1283
         refine sk (sq (rg (m1 rfl ?_)))
         obtain ⟨hk1298, hr1299⟩ := chk_some hr1297
         refine adI rfl rfl rfl hk1298 (a1 rfl (on (sq (rg (fb 0 U115 rfl rfl rfl rfl Z52 (fb 1 U52 rfl rfl rfl rfl Z9 (ld G9 rfl rfl (((sS 0 rfl hK1291).drop 1).take 1) rfl (lnS U9 rfl rfl (fb 3 U42 rfl rfl rfl rfl Z3 (ld G3 rfl rfl (((sS 2 rfl hK6).drop 3).take 1) rfl ?_))))))))))
         obtain ⟨hk1300, hr1301⟩ := chk_some hr1299
         refine adI rfl rfl rfl hk1300 ?_
         obtain ⟨hk1302, hr1303⟩ := chk_some hr1301
         refine sbI rfl rfl rfl hk1302 (fb 3 U42 rfl rfl rfl rfl Z3 (ld G3 rfl rfl (((sS 2 rfl hK6).drop 3).take 1) rfl ?_))
         obtain ⟨hk1304, hr1305⟩ := chk_some hr1303
         refine quI rfl rfl rfl hk1304 (a1 rfl (on (sq ?_)))
         obtain ⟨hk1306, hr1307⟩ := chk_some hr1305
         obtain ⟨hk1308, hr1309⟩ := chk_some hr1307
         obtain ⟨hk1310, hr1311⟩ := chk_some hr1309
         have : 0 ≤ (s1208.2.2.1 % v_0.height) ∧ (s1208.2.2.1 % v_0.height) < v_0.height := have h := (hk1310 : 0 ≤ s1208.2.2.1 ∧ 0 < v_0.height); ⟨Int.emod_nonneg _ (by omega), Int.emod_lt_of_pos _ h.2⟩
         obtain ⟨hk1312, hr1313⟩ := chk_some hr1311
         obtain ⟨x1314, hx1315, hr1316⟩ := bd_some hr1313
         obtain ⟨p1317, rfl⟩ := hl3.adr hx1315
         obtain ⟨cs1318, hcs1319, hq1320, hr1321⟩ := hl3.at hx1315
         have hr1322 := hr1321
         obtain ⟨ad1323, cap1324, rfl, hl1325⟩ := hr1321
         have := hl1325.len
         refine drG 26 mixed (by kernel_rfl) rfl (dt rfl (m1 rfl fin1) (dt rfl (fb 0 U115 rfl rfl rfl rfl Z52 fin1) (dt rfl (fb 0 U52 rfl rfl rfl rfl Z3 fin1) (dt rfl (ld G3 rfl rfl ((sS 1 rfl hK1291).take 1) rfl fin1) (dt rfl (m1 rfl fin1) (dt rfl (m1 rfl fin1) (dt rfl (fb 2 U42 rfl rfl rfl rfl Z3 fin1) (dt rfl (ld G3 rfl rfl (((sS 3 rfl hK6).drop 2).take 1) rfl fin1) (dt rfl (quI rfl rfl rfl hk1306 fin1) (dt rfl (adI rfl rfl rfl hk1308 fin1) (dt rfl (m1 rfl fin1) ?_)))))))))))
         refine dt rfl (fb 2 U42 rfl rfl rfl rfl Z3 fin1) (dt rfl (ld G3 rfl rfl (((sS 3 rfl hK6).drop 2).take 1) rfl fin1) (dt rfl (rmI rfl rfl rfl hk1310 fin1) (dt rfl (adI rfl rfl rfl hk1312 fin1) (dt rfl (m1 rfl fin1) (dt rfl (bu (cs := [.int .i64 x1281.paragraph.anchor, .int .i64 (s763.2.1 + (s1208.2.2.1 / v_0.height)), .int .i64 ((s1208.2.2.1 % v_0.height) + 1), .int .i64 ((((x1281.paragraph.text.length : Int) + v_0.width) - 1) / v_0.width)]) T10.B81 rfl rfl rfl fin1) (dt rfl (fb 4 U42 rfl rfl rfl rfl Z40 fin1) (dt rfl (ld G40 rfl rfl ((sS 3 rfl hK6).drop 4) rfl fin1) (dt rfl (m1 rfl fin1) (dt rfl (iaP U40 Z105 rfl rfl rfl rfl (lt_of hx1315) fin1) (dt rfl (fb 0 U105 rfl rfl rfl rfl Z3 fin1) (dt rfl (ld G3 rfl rfl ((sS 4 rfl hq1320).take 1) rfl fin1) ?_)))))))))))
         refine dt rfl (m1 rfl fin1) (dt rfl (bu (cs := [.int .i64 x1281.paragraph.anchor, .int .i64 (s763.2.1 + (s1208.2.2.1 / v_0.height)), .int .i64 ((s1208.2.2.1 % v_0.height) + 1), .int .i64 ((((x1281.paragraph.text.length : Int) + v_0.width) - 1) / v_0.width), .int .i64 x1314.day, .int .i64 ((s1208.1 : Int) + 1)]) T10.B124 rfl rfl rfl fin1) ?_)
         refine DF.und (α := Option Addr × Nat) (none, 0) (fun q => .slice q.1 1 q.2) (fun (q : Option Addr × Nat) K => Sl (Flat encprinted) 6 K q.1 q.2 ([(⟨(⟨x1281.paragraph.anchor, (s763.2.1 + (s1208.2.2.1 / v_0.height)), ((s1208.2.2.1 % v_0.height) + 1), ((((x1281.paragraph.text.length : Int) + v_0.width) - 1) / v_0.width)⟩ : Place), x1314.day, ((s1208.1 : Int) + 1)⟩ : printed)] : List printed)) (fun _ _ _ h x => x.mono (Flat.mono _) h) (by kernel_rfl) rfl (fun a w K hS hA hF => TG.pa hS hA (bS (cs := [.int .i64 x1281.paragraph.anchor, .int .i64 (s763.2.1 + (s1208.2.2.1 / v_0.height)), .int .i64 ((s1208.2.2.1 % v_0.height) + 1), .int .i64 ((((x1281.paragraph.text.length : Int) + v_0.width) - 1) / v_0.width), .int .i64 x1314.day, .int .i64 ((s1208.1 : Int) + 1)]) T10.E121 rfl rfl rfl rfl fun q1326 K1327 hq1328 hK1329 => by
           have hl1330 : Sl (Flat encprinted) 6 K1327 (some q1326) 1 ([(⟨(⟨x1281.paragraph.anchor, (s763.2.1 + (s1208.2.2.1 / v_0.height)), ((s1208.2.2.1 % v_0.height) + 1), ((((x1281.paragraph.text.length : Int) + v_0.width) - 1) / v_0.width)⟩ : Place), x1314.day, ((s1208.1 : Int) + 1)⟩ : printed)] : List printed) := Sl.litR (css := [[.int .i64 x1281.paragraph.anchor, .int .i64 (s763.2.1 + (s1208.2.2.1 / v_0.height)), .int .i64 ((s1208.2.2.1 % v_0.height) + 1), .int .i64 ((((x1281.paragraph.text.length : Int) + v_0.width) - 1) / v_0.width), .int .i64 x1314.day, .int .i64 ((s1208.1 : Int) + 1)]]) (l := ([(⟨(⟨x1281.paragraph.anchor, (s763.2.1 + (s1208.2.2.1 / v_0.height)), ((s1208.2.2.1 % v_0.height) + 1), ((((x1281.paragraph.text.length : Int) + v_0.width) - 1) / v_0.width)⟩ : Place), x1314.day, ((s1208.1 : Int) + 1)⟩ : printed)] : List printed)) ⟨⟨rfl, rfl, rfl⟩, tv⟩ hq1328 hK1329 rfl
           have := hl1330.len
           exact finU (f := fun q => .slice q.1 1 q.2) (G := (fun (q : Option Addr × Nat) K => Sl (Flat encprinted) 6 K q.1 q.2 ([(⟨(⟨x1281.paragraph.anchor, (s763.2.1 + (s1208.2.2.1 / v_0.height)), ((s1208.2.2.1 % v_0.height) + 1), ((((x1281.paragraph.text.length : Int) + v_0.width) - 1) / v_0.width)⟩ : Place), x1314.day, ((s1208.1 : Int) + 1)⟩ : printed)] : List printed))) (_, _) (fun _ _ _ h x => x.mono (Flat.mono _) h) hl1330)) ?_
         rintro ⟨ad1332, cap1333⟩
         refine DF.nil fun K1334 hF => ?_
         obtain ⟨hu1331, _⟩ := hF
         have := hu1331.len
         obtain ⟨hk1335, hr1336⟩ := chk_some hr1316
         have := lenA s1208.2.2.2 ([(⟨(⟨x1281.paragraph.anchor, (s763.2.1 + (s1208.2.2.1 / v_0.height)), ((s1208.2.2.1 % v_0.height) + 1), ((((x1281.paragraph.text.length : Int) + v_0.width) - 1) / v_0.width)⟩ : Place), x1314.day, ((s1208.1 : Int) + 1)⟩ : printed)] : List printed)
         refine apS 2 (enc := encprinted) (l := s1208.2.2.2) (m := ([(⟨(⟨x1281.paragraph.anchor, (s763.2.1 + (s1208.2.2.1 / v_0.height)), ((s1208.2.2.1 % v_0.height) + 1), ((((x1281.paragraph.text.length : Int) + v_0.width) - 1) / v_0.width)⟩ : Place), x1314.day, ((s1208.1 : Int) + 1)⟩ : printed)] : List printed)) T10.E121 rfl rfl rfl rfl rfl rfl hu1331 0 rfl (fun _ => rfl) (fun _ => rfl) rfl hk1335 fun ad1337 cap1338 => (a1 rfl (on (rg (m1 rfl (m1 rfl ?_)))))
         obtain ⟨hk1339, hr1340⟩ := chk_some hr1336
         refine adI rfl rfl rfl hk1339 (a1 rfl (on ?_))
         cases hr1340
         intro a w hS hA
         exact ⟨ad1337, cap1338, hS.selH [2, 3, 4] rfl, hA.cut ⟨rfl, rfl, rfl, rfl, rfl, rfl, rfl, rfl, rfl, rfl, rfl, rfl, tv⟩⟩
       ·rintro a w ⟨ad1279, cap1280, hS, hA⟩
        refine TG.ap ?_ hS hA
        refine rg (adI rfl rfl rfl (by omega) (m1 rfl (on ?_)))
        cases hr1278
        intro a w hS hA
        exact ⟨_, hz1212, ad1279, cap1280, hS, hA.cut ⟨rfl, rfl, rfl, rfl, rfl, rfl, rfl, rfl, rfl, rfl, rfl, rfl, tv⟩⟩
      ·have hr1341 := if_n hc1217 hr1211
       refine xt rfl ?_
       cases hr1341
       obtain rfl := Fin.out hz1212
       intro a w hS hA
       exact ⟨ad1209, cap1210, hS, hA.cut ⟨rfl, rfl, rfl, rfl, rfl, rfl, rfl, tv⟩⟩
    ·rintro a w ⟨ad1206, cap1207, hS, hA⟩
     refine TG.ap ?_ hS hA
     refine rg (m1 rfl (m1 rfl (fb 2 U42 rfl rfl rfl rfl Z3 (ld G3 rfl rfl (((sS 1 rfl hK6).drop 2).take 1) rfl ?_))))
     obtain ⟨hk1342, hr1343⟩ := chk_some hr1205
     refine adI rfl rfl rfl hk1342 ?_
     obtain ⟨hk1344, hr1345⟩ := chk_some hr1343
     refine sbI rfl rfl rfl hk1344 (fb 2 U42 rfl rfl rfl rfl Z3 (ld G3 rfl rfl (((sS 1 rfl hK6).drop 2).take 1) rfl ?_))
     obtain ⟨hk1346, hr1347⟩ := chk_some hr1345
     refine quI rfl rfl rfl hk1346 ?_
     obtain ⟨hk1348, hr1349⟩ := chk_some hr1347
     refine adI rfl rfl rfl hk1348 (a1 rfl (on (rg (adI rfl rfl rfl (by omega) (m1 rfl (on ?_))))))
     cases hr1349
     intro a w hS hA
     exact ⟨_, hz767, ad1206, cap1207, hS, hA.cut ⟨rfl, rfl, rfl, rfl, rfl, rfl, tv⟩⟩
   ·have hr1350 := if_n hc772 hr766
    refine xt rfl ?_
    cases hr1350
    obtain rfl := Fin.out hz767
    intro a w hS hA
    exact ⟨ad764, cap765, hS, hA.cut ⟨rfl, tv⟩⟩
 ·rintro a w ⟨ad761, cap762, hS, hA⟩
  refine TG.ap ?_ hS hA
  refine sq (rg (m1 rfl (a1 rfl (on (rt_ ?_)))))
  cases hr760
  intro a w hS hA
  refine ret1 hA rfl rfl ?_
  exact ⟨⟨_, _, rfl, (hS.listOut 2 rfl (fun _ => rfl))⟩, hS.ext⟩

theorem w22 {M : Prop} {W : World} {H : Hp} (hH : H.le (hp W)) {cs_v_0 : List Value} (v_0 : Volume) (h_v_0 : (RVolume) H cs_v_0 v_0) {ad_errata : Option Addr} {cap_errata : Nat} {errata : List Erratum} (h_errata : Sl (Flat encErratum) 6 H ad_errata cap_errata errata) {r : List Place × Int} (hr : m22 v_0 errata = some r) : Calls Tryz.prog 22 [.agg cs_v_0.toArray, .slice ad_errata errata.length cap_errata].toArray W (RetK M H W (fun v K => ∃ (ad0 : Option Addr) (cap0 : Nat), v = .tuple [.slice ad0 r.1.length cap0, .int .i64 r.2].toArray ∧ Sl (Flat encPlace) 4 K ad0 cap0 r.1)) := by
 have hh_v_0 := h_v_0
 obtain ⟨ad1, cap2, rfl, hl3⟩ := h_v_0
 have := hl3.len
 have := h_errata.len
 unfold m22 at hr
 refine enterG (M := M) Tryz.func22 rfl Tryz.ntmps22 rfl hH ?_
 refine sq (rg (bI (cs := [.int .i64 v_0.number, .int .i64 v_0.bound, .int .i64 v_0.height, .int .i64 v_0.width, .slice ad1 v_0.parts.length cap2]) rfl rfl rfl fun q4 K5 hK6 => (a1 rfl (a1 rfl (on (sq (sq (rg (ldA G42 Z42 rfl rfl (sS 0 rfl hK6) rfl (m1 rfl ?_))))))))))
 obtain ⟨r7, hx8, hr9⟩ := bd_some hr
 refine clS C33 rfl rfl rfl rfl (fun w H hH le => w33 hH v_0 (RVolume.mono _ _ _ _ (le.at 1 rfl) hh_v_0) (h_errata.mono (Flat.mono _) (le.at 1 rfl)) hx8) (a1 rfl (on (sq (rg (m1 rfl (neI rfl rfl rfl (on ?_)))))))
 refine ci rfl (fun hc13 => ?_) (fun hc13 => ?_)
 ·have hr14 := if_p hc13 hr9
  refine sq (rg (m1 rfl (a1 rfl (a1 rfl (on (rt_ ?_))))))
  cases hr14
  intro a w hS hA
  refine ret2 hA rfl rfl rfl ?_
  exact ⟨⟨_, _, rfl, (Sl.nil _ _ _ _ _ (by decide))⟩, hS.ext⟩
 ·have hr15 := if_n hc13 hr9
  refine sk (sq (rg (a1 rfl (on (sq (sq (rg (ldA G42 Z42 rfl rfl (sS 0 rfl hK6) rfl (m1 rfl ?_)))))))))
  obtain ⟨r16, hx17, hr18⟩ := bd_some hr15
  refine clK C39 rfl rfl rfl rfl (fun w H hH le => w39 hH v_0 (RVolume.mono _ _ _ _ (le.at 1 rfl) hh_v_0) (h_errata.mono (Flat.mono _) (le.at 1 rfl)) hx17) ?_
  rintro v_ K19 ⟨ad20, cap21, rfl, hl22⟩
  have := hl22.len
  refine lnL U121 rfl rfl (m1 rfl (on (TG.nilRow 2 81 4 (TG.as 2 (z := Own.list none 0 81 4 encPlace ([] : List Place)) rfl rfl ?_))))
  obtain ⟨e89, hl90, hr91⟩ := bd_some hr18
  refine jn (fun a w => ∃ (ad92 : Option Addr) (cap93 : Nat), St M W H [K19, K5, H] [(2, Own.list ad92 cap93 81 4 encPlace e89)] w ∧ Has [] 31 a [(7, .slice ad92 e89.length cap93)]) ?_ ?_
  ·refine bk ?_
   refine lp hl90 (fun s94 a w => ∃ (ad95 : Option Addr) (cap96 : Nat), St M W H [K19, K5, H] [(2, Own.list ad95 cap96 81 4 encPlace s94.2)] w ∧ Has [] 31 a [(7, .slice ad95 s94.2.length cap96), (18, .slice ad20 r16.length cap21), (19, .int .i64 (r16.length : Int)), (20, .int .i64 (s94.1 : Int))]) ?_ ?_
   ·intro a w hS hA
    exact ⟨none, 0, hS, hA.cut ⟨rfl, rfl, rfl, rfl, tv⟩⟩
   ·rintro j s94 y99 hr97 hz98 a w ⟨ad95, cap96, hS, hA⟩
    refine TG.ap ?_ hS hA
    unfold m22_1 at hr97
    refine sq (rg (ltI rfl rfl rfl (on (sq ?_))))
    refine ci rfl (fun hc103 => ?_) (fun hc103 => ?_)
    ·have hr104 := if_p hc103 hr97
     refine sk (sq (bk (sq (rg ?_))))
     obtain ⟨x121, hx122, hr123⟩ := bd_some hr104
     obtain ⟨p124, rfl⟩ := hl22.adr hx122
     obtain ⟨cs125, hcs126, hq127, hr128⟩ := hl22.at hx122
     obtain rfl := hr128
     refine iaP U121 Z124 rfl rfl rfl rfl (lt_of hx122) (ldA G124 Z124 rfl rfl (sS 0 rfl hq127) rfl (va (cs := [.int .i64 x121.place.anchor, .int .i64 x121.place.column, .int .i64 x121.place.line, .int .i64 x121.place.lines, .int .i64 x121.day, .int .i64 x121.number]) Tryz.zeroValue124 Z124 rfl rfl rfl rfl rfl rfl rfl rfl fun q129 K130 hK131 => (on (rg (m1 rfl (fb 0 U124 rfl rfl rfl rfl Z81 (ldA G81 Z81 rfl rfl ((sS 0 rfl hK131).take 4) rfl ?_)))))))
     obtain ⟨hk132, hr133⟩ := chk_some hr123
     have := lenA s94.2 [x121.place]
     have := len1 x121.place
     refine ap1 2 encPlace (l := s94.2) x121.place T10.E74 rfl rfl rfl rfl rfl rfl rfl rfl rfl rfl rfl rfl hk132 fun ad134 cap135 u136 => (a1 rfl (on (rg (adI rfl rfl rfl (by omega) (m1 rfl (on ?_))))))
     cases hr133
     intro a w hS hA
     exact ⟨_, hz98, ad134, cap135, hS.selH [1, 2, 3] rfl, hA.cut ⟨rfl, rfl, rfl, rfl, tv⟩⟩
    ·have hr137 := if_n hc103 hr97
     refine xt rfl ?_
     cases hr137
     obtain rfl := Fin.out hz98
     intro a w hS hA
     exact ⟨ad95, cap96, hS, hA.cut ⟨rfl, tv⟩⟩
  ·rintro a w ⟨ad92, cap93, hS, hA⟩
   refine TG.ap ?_ hS hA
   refine sq (rg (m1 rfl (a1 rfl (a1 rfl (on (rt_ ?_))))))
   cases hr91
   intro a w hS hA
   refine ret2 hA rfl rfl rfl ?_
   exact ⟨⟨_, _, rfl, (hS.listOut 2 rfl (fun _ => rfl))⟩, hS.ext⟩

theorem w9 {M : Prop} {W : World}  {r : Bool} (hr : m9 = some r) : Calls Tryz.prog 9 [].toArray W (RetS M W (.bool r)) := by
 unfold m9 at hr
 refine enterG (M := M) Tryz.func9 rfl Tryz.ntmps9 rfl (Hp.le.refl _) ?_
 refine sq (rg (a1 rfl (on (sq (rg (bu (cs := [.int .i64 4, .string (bs [80, 114, 97, 121, 101, 114, 115, 46])]) T10.B52 rfl rfl rfl (bS (cs := [.int .i64 4, .string (bs [80, 114, 97, 121, 101, 114, 115, 46])]) T10.E36 rfl rfl rfl rfl fun q1 K2 hq3 hK4 => ?_)))))))
 have hl5 : Sl (Flat encParagraph) 2 K2 (some q1) 1 ([(⟨4, [80, 114, 97, 121, 101, 114, 115, 46]⟩ : Paragraph)] : List Paragraph) := Sl.litR (css := [[.int .i64 4, .string (bs [80, 114, 97, 121, 101, 114, 115, 46])]]) (l := ([(⟨4, [80, 114, 97, 121, 101, 114, 115, 46]⟩ : Paragraph)] : List Paragraph)) ⟨⟨rfl, rfl, rfl⟩, tv⟩ hq3 hK4 rfl
 have := hl5.len
 refine bu (cs := [.int .i64 0, .slice (some q1) 1 1]) T10.B105 rfl rfl rfl (bS (cs := [.int .i64 0, .slice (some q1) 1 1]) T10.E40 rfl rfl rfl rfl fun q6 K7 hq8 hK9 => (TG.pack (fun K => Sl (RPart) 2 K (some q6) 1 ([(⟨0, ([(⟨4, [80, 114, 97, 121, 101, 114, 115, 46]⟩ : Paragraph)] : List Paragraph)⟩ : Part)] : List Part)) (fun H le => Sl.litR (css := [[.int .i64 0, .slice (some q1) 1 1]]) (l := ([(⟨0, ([(⟨4, [80, 114, 97, 121, 101, 114, 115, 46]⟩ : Paragraph)] : List Paragraph)⟩ : Part)] : List Part)) ⟨⟨rfl, rfl, ⟨_, _, rfl, (hl5.mono (Flat.mono _) (le.at 1 rfl))⟩⟩, tv⟩ hq8 (hK9.mono (le.at 0 rfl)) rfl) fun K11 hl10 => ?_))
 have := hl10.len
 refine bu (cs := [.int .i64 1, .int .i64 0, .int .i64 2, .int .i64 10, .slice (some q6) 1 1]) T10.B42 rfl rfl rfl ?_
 obtain ⟨r12, hx13, hr14⟩ := bd_some hr
 refine clK C22 rfl rfl rfl rfl (fun w H hH le => w22 hH (⟨1, 0, 2, 10, ([(⟨0, ([(⟨4, [80, 114, 97, 121, 101, 114, 115, 46]⟩ : Paragraph)] : List Paragraph)⟩ : Part)] : List Part)⟩ : Volume) ⟨_, _, rfl, (hl10.mono (RPart.mono) (le.at 0 rfl))⟩ (errata := []) (Sl.nil _ _ _ _ _ (by decide)) hx13) ?_
 rintro v_ K15 ⟨ad16, cap17, rfl, hl18⟩
 have := hl18.len
 refine m1 rfl (ex rfl rfl rfl (ex rfl rfl rfl (a1 rfl (a1 rfl (on (sq ?_))))))
 obtain ⟨t33, hx34, hr35⟩ := bd_some hr14
 refine jn (fun a w => St M W (hp W) [K15, K11, K7, K2, (hp W)] [] w ∧ Has [] 26 a [(0, .bool t33)]) ?_ ?_
 ·refine rg (m1 rfl (eqI rfl rfl rfl (m1 rfl ?_)))
  by_cases hb36 : r12.2 = 0
  ·have hr37 := if_p hb36 hx34
   refine gt hb36 rfl (m1 rfl (gt hb36 rfl (lnL U74 rfl rfl (gt hb36 rfl (eqI rfl rfl rfl (pt hb36 rfl rfl (m1 rfl ?_)))))))
   by_cases hb38 : (r12.1.length : Int) = 1
   ·have hr39 := if_p hb38 hr37
    refine gt hb38 rfl (m1 rfl (gt hb38 rfl ?_))
    obtain ⟨x40, hx41, hr42⟩ := bd_some hr39
    obtain ⟨p43, rfl⟩ := hl18.adr hx41
    obtain ⟨cs44, hcs45, hq46, hr47⟩ := hl18.at hx41
    obtain rfl := hr47
    refine iaP U74 Z81 rfl rfl rfl rfl (lt_of hx41) (gt hb38 rfl (ldA G81 Z81 rfl rfl (sS 0 rfl hq46) rfl (gt hb38 rfl (bu (cs := [.int .i64 4, .int .i64 1, .int .i64 1, .int .i64 1]) T10.B81 rfl rfl rfl (gt hb38 rfl (eqA x40 (⟨4, 1, 1, 1⟩ : Place) T10.Q81 rfl rfl rfl (pt hb38 rfl rfl (a1 rfl (on ?_)))))))))
    cases hr42
    exact cu ⟨rfl, tv⟩
   ·have hr48 := if_n hb38 hr37
    refine gf hb38 rfl (gf hb38 rfl (gf hb38 rfl (gf hb38 rfl (gf hb38 rfl (pf hb38 rfl rfl (a1 rfl (on ?_)))))))
    cases hr48
    exact cu ⟨rfl, tv⟩
  ·have hr49 := if_n hb36 hx34
   refine gf hb36 rfl (gf hb36 rfl (gf hb36 rfl (pf hb36 rfl rfl (m1 rfl (gF rfl rfl rfl rfl (gF rfl rfl rfl rfl (gF rfl rfl rfl rfl (gF rfl rfl rfl rfl (gF rfl rfl rfl rfl (pF rfl rfl rfl rfl (a1 rfl ?_)))))))))))
   refine on ?_
   cases hr49
   exact cu ⟨rfl, tv⟩
 ·rintro a w ⟨hS, hA⟩
  refine TG.ap ?_ hS hA
  refine rt_ ?_
  cases hr35
  intro a w hS hA
  refine ret1 hA rfl rfl ?_
  exact ⟨rfl, hS.ext⟩

theorem w11 {M : Prop} {W : World} {H : Hp} (hH : H.le (hp W)) {cs_v_0 : List Value} (v_0 : Volume) (h_v_0 : (RVolume) H cs_v_0 v_0) {r : Volume} (hr : m11 v_0 = some r) : Calls Tryz.prog 11 [.agg cs_v_0.toArray].toArray W (RetK M H W (fun v K => ∃ (cs0 : List Value), v = .agg cs0.toArray ∧ (RVolume) K cs0 r)) := by
 have hh_v_0 := h_v_0
 obtain ⟨ad1, cap2, rfl, hl3⟩ := h_v_0
 have := hl3.len
 unfold m11 at hr
 refine enterG (M := M) Tryz.func11 rfl Tryz.ntmps11 rfl hH ?_
 refine sq (rg (bI (cs := [.int .i64 v_0.number, .int .i64 v_0.bound, .int .i64 v_0.height, .int .i64 v_0.width, .slice ad1 v_0.parts.length cap2]) rfl rfl rfl fun q4 K5 hK6 => (al 1 (cs := [.int .i64 0, .int .i64 0, .int .i64 0, .int .i64 0, .slice none 0 0]) Tryz.zeroValue42 rfl rfl fun b7 => (on (sq (rg (fb 0 U24 rfl rfl rfl rfl Z3 (ld G3 rfl rfl ((sS 0 rfl hK6).take 1) rfl (fb 1 U24 rfl rfl rfl rfl Z3 (ld G3 rfl rfl (((sS 0 rfl hK6).drop 1).take 1) rfl (fb 2 U24 rfl rfl rfl rfl Z3 ?_)))))))))))
 refine ld G3 rfl rfl (((sS 0 rfl hK6).drop 2).take 1) rfl (fb 3 U24 rfl rfl rfl rfl Z3 (ld G3 rfl rfl (((sS 0 rfl hK6).drop 3).take 1) rfl (bu (cs := [.int .i64 v_0.number, .int .i64 v_0.bound, .int .i64 v_0.height, .int .i64 v_0.width, .slice none 0 0]) T10.B42 rfl rfl rfl (al 2 (cs := [.int .i64 0, .int .i64 0, .int .i64 0, .int .i64 0, .slice none 0 0]) Tryz.zeroValue42 rfl rfl fun b8 => (sto 2 (cs := [.int .i64 v_0.number, .int .i64 v_0.bound, .int .i64 v_0.height, .int .i64 v_0.width, .slice none 0 0]) Z42 rfl rfl rfl rfl rfl rfl rfl (on (sq (sq (rg (a1 rfl (on ?_)))))))))))
 refine TG.nilRow 7 105 2 ?_
 have hR105 : Rows (RPart) 2 H [] ([] : List Part) := tv
 refine TG.as 7 (z := Own.rows none 0 105 2 [] ([] : List Part)) rfl rfl ?_
 obtain ⟨e311, hl312, hr313⟩ := bd_some hr
 refine jn (fun a w => ∃ (ad314 : Option Addr) (cap315 : Nat) (css316 : List (List Value)) (K317 : Hp), St M W H [K317, K5, H] [(7, Own.rows ad314 cap315 105 2 css316 e311), (2, cel b8 42 [.int .i64 v_0.number, .int .i64 v_0.bound, .int .i64 v_0.height, .int .i64 v_0.width, .slice ad314 e311.length cap315]), (1, cel b7 42 [.int .i64 0, .int .i64 0, .int .i64 0, .int .i64 0, .slice none 0 0])] w ∧ Has [] 68 a [(2, .pointer (some (⟨b7, 0, none⟩))), (3, .pointer (some (⟨b8, 0, none⟩)))] ∧ Rows (RPart) 2 K317 css316 e311) ?_ ?_
 ·refine bk ?_
  refine lp hl312 (fun s319 a w => ∃ (ad320 : Option Addr) (cap321 : Nat) (css322 : List (List Value)) (K323 : Hp), St M W H [K323, K5, H] [(7, Own.rows ad320 cap321 105 2 css322 s319.2), (2, cel b8 42 [.int .i64 v_0.number, .int .i64 v_0.bound, .int .i64 v_0.height, .int .i64 v_0.width, .slice ad320 s319.2.length cap321]), (1, cel b7 42 [.int .i64 0, .int .i64 0, .int .i64 0, .int .i64 0, .slice none 0 0])] w ∧ Has [] 68 a [(1, .pointer (some q4)), (2, .pointer (some (⟨b7, 0, none⟩))), (3, .pointer (some (⟨b8, 0, none⟩))), (4, .int .i64 (s319.1 : Int))] ∧ Rows (RPart) 2 K323 css322 s319.2) ?_ ?_
  ·intro a w hS hA
   exact ⟨none, 0, [], H, hS.selH [1, 0, 1] rfl, hA.cut ⟨rfl, rfl, rfl, rfl, tv⟩, hR105⟩
  ·rintro j s319 y327 hr325 hz326 a w ⟨ad320, cap321, css322, K323, hS, hA, hR324⟩
   refine TG.ap ?_ hS hA
   unfold m11_1 at hr325
   refine sq (sq (rg (m1 rfl (fb 4 U24 rfl rfl rfl rfl Z22 (ld G22 rfl rfl ((sS 1 rfl hK6).drop 4) rfl (lnL U22 rfl rfl (ltI rfl rfl rfl (on ?_))))))))
   refine ci rfl (fun hc331 => ?_) (fun hc331 => ?_)
   ·have hr332 := if_p hc331 hr325
    refine sk (sq (bk (sq (rg (fb 4 U24 rfl rfl rfl rfl Z22 (ld G22 rfl rfl ((sS 1 rfl hK6).drop 4) rfl (m1 rfl ?_)))))))
    obtain ⟨x424, hx425, hr426⟩ := bd_some hr332
    obtain ⟨p427, rfl⟩ := hl3.adr hx425
    obtain ⟨cs428, hcs429, hq430, hr431⟩ := hl3.at hx425
    have hr432 := hr431
    obtain ⟨ad433, cap434, rfl, hl435⟩ := hr431
    have := hl435.len
    refine iaP U22 Z94 rfl rfl rfl rfl (lt_of hx425) (fb 0 U94 rfl rfl rfl rfl Z3 (ld G3 rfl rfl ((sS 2 rfl hq430).take 1) rfl (bu (cs := [.int .i64 x424.day, .slice none 0 0]) T10.B105 rfl rfl rfl (al 3 (cs := [.int .i64 0, .slice none 0 0]) Tryz.zeroValue105 rfl rfl fun b436 => (sto 3 (cs := [.int .i64 x424.day, .slice none 0 0]) Z105 rfl rfl rfl rfl rfl rfl rfl (on (sq (sq (rg (a1 rfl (on ?_)))))))))))
    refine TG.nilRow 5 52 2 (TG.as 5 (z := Own.list none 0 52 2 encParagraph ([] : List Paragraph)) rfl rfl ?_)
    obtain ⟨e503, hl504, hr505⟩ := bd_some hr426
    refine jn (fun a w => ∃ (ad506 : Option Addr) (cap507 : Nat), St M W H [K323, K5, H] [(5, Own.list ad506 cap507 52 2 encParagraph e503), (3, cel b436 105 [.int .i64 x424.day, .slice ad506 e503.length cap507]), (7, Own.rows ad320 cap321 105 2 css322 s319.2), (2, cel b8 42 [.int .i64 v_0.number, .int .i64 v_0.bound, .int .i64 v_0.height, .int .i64 v_0.width, .slice ad320 s319.2.length cap321]), (1, cel b7 42 [.int .i64 0, .int .i64 0, .int .i64 0, .int .i64 0, .slice none 0 0])] w ∧ Has [] 68 a [(1, .pointer (some q4)), (2, .pointer (some (⟨b7, 0, none⟩))), (3, .pointer (some (⟨b8, 0, none⟩))), (4, .int .i64 (s319.1 : Int)), (5, .pointer (some (⟨b436, 0, none⟩)))]) ?_ ?_
    ·refine bk ?_
     refine lp hl504 (fun s508 a w => ∃ (ad509 : Option Addr) (cap510 : Nat), St M W H [K323, K5, H] [(5, Own.list ad509 cap510 52 2 encParagraph s508.2), (3, cel b436 105 [.int .i64 x424.day, .slice ad509 s508.2.length cap510]), (7, Own.rows ad320 cap321 105 2 css322 s319.2), (2, cel b8 42 [.int .i64 v_0.number, .int .i64 v_0.bound, .int .i64 v_0.height, .int .i64 v_0.width, .slice ad320 s319.2.length cap321]), (1, cel b7 42 [.int .i64 0, .int .i64 0, .int .i64 0, .int .i64 0, .slice none 0 0])] w ∧ Has [] 68 a [(1, .pointer (some q4)), (2, .pointer (some (⟨b7, 0, none⟩))), (3, .pointer (some (⟨b8, 0, none⟩))), (4, .int .i64 (s319.1 : Int)), (5, .pointer (some (⟨b436, 0, none⟩))), (6, .int .i64 (s508.1 : Int))]) ?_ ?_
     ·intro a w hS hA
      exact ⟨none, 0, hS, hA.cut ⟨rfl, rfl, rfl, rfl, rfl, rfl, tv⟩⟩
     ·rintro j s508 y513 hr511 hz512 a w ⟨ad509, cap510, hS, hA⟩
      refine TG.ap ?_ hS hA
      unfold m11_2 at hr511
      refine sq (sq (rg (m1 rfl (fb 4 U24 rfl rfl rfl rfl Z22 (ld G22 rfl rfl ((sS 1 rfl hK6).drop 4) rfl (m1 rfl (iaP U22 Z94 rfl rfl rfl rfl (lt_of hx425) (fb 1 U94 rfl rfl rfl rfl Z92 (ld G92 rfl rfl ((sS 2 rfl hq430).drop 1) rfl (lnL U92 rfl rfl (ltI rfl rfl rfl ?_)))))))))))
      refine on ?_
      refine ci rfl (fun hc517 => ?_) (fun hc517 => ?_)
      ·have hr518 := if_p hc517 hr511
       refine sk (sq (bk (sq (rg (fb 4 U24 rfl rfl rfl rfl Z22 (ld G22 rfl rfl ((sS 1 rfl hK6).drop 4) rfl (m1 rfl (iaP U22 Z94 rfl rfl rfl rfl (lt_of hx425) (fb 1 U94 rfl rfl rfl rfl Z92 (ld G92 rfl rfl ((sS 2 rfl hq430).drop 1) rfl (m1 rfl ?_)))))))))))
       obtain ⟨x535, hx536, hr537⟩ := bd_some hr518
       obtain ⟨p538, rfl⟩ := hl435.adr hx536
       obtain ⟨cs539, hcs540, hq541, hr542⟩ := hl435.at hx536
       obtain rfl := hr542
       refine iaP U92 Z95 rfl rfl rfl rfl (lt_of hx536) (ldA G95 Z95 rfl rfl (sS 2 rfl hq541) rfl (va (cs := [.int .i64 x535.anchor, .string (bs x535.text)]) Tryz.zeroValue95 Z95 rfl rfl rfl rfl rfl rfl rfl rfl fun q543 K544 hK545 => (on (rg (fb 1 U105 rfl rfl rfl rfl Z36 (ld G36 rfl rfl ((sO 3 rfl).drop 1) rfl (fb 0 U95 rfl rfl rfl rfl Z3 (ld G3 rfl rfl ((sS 0 rfl hK545).take 1) rfl (fb 1 U95 rfl rfl rfl rfl Z9 (ld G9 rfl rfl ((sS 0 rfl hK545).drop 1) rfl (bu (cs := [.int .i64 x535.anchor, .string (bs x535.text)]) T10.B52 rfl rfl rfl ?_)))))))))))
       obtain ⟨hk546, hr547⟩ := chk_some hr537
       have := lenA s508.2 [x535]
       have := len1 x535
       refine ap1 5 encParagraph (l := s508.2) x535 T10.E36 rfl rfl rfl rfl rfl rfl rfl rfl rfl rfl rfl rfl hk546 fun ad548 cap549 u550 => (fb 1 U105 rfl rfl rfl rfl Z36 (sto 3 (cs := [.slice ad548 ((s508.2 ++ [x535]).length) cap549]) Z36 rfl rfl rfl rfl rfl rfl rfl (on (rg (m1 rfl (adI rfl rfl rfl (by omega) (a1 rfl (on ?_))))))))
       cases hr547
       intro a w hS hA
       exact ⟨_, hz512, ad548, cap549, hS.selH [1, 2, 3] rfl, hA.cut ⟨rfl, rfl, rfl, rfl, rfl, rfl, tv⟩⟩
      ·have hr551 := if_n hc517 hr511
       refine xt rfl ?_
       cases hr551
       obtain rfl := Fin.out hz512
       intro a w hS hA
       exact ⟨ad509, cap510, hS, hA.cut ⟨rfl, rfl, rfl, rfl, rfl, tv⟩⟩
    ·rintro a w ⟨ad506, cap507, hS, hA⟩
     refine TG.ap ?_ hS hA
     refine rg (fb 4 U42 rfl rfl rfl rfl Z40 (ld G40 rfl rfl ((sO 2 rfl).drop 4) rfl (ldA G105 Z105 rfl rfl (sO 3 rfl) rfl (TG.still 5 rfl (fun _ => rfl) fun K552 hl553 => ?_))))
     have := hl553.len
     obtain ⟨hk554, hr555⟩ := chk_some hr505
     have := lenA s319.2 [(⟨x424.day, e503⟩ : Part)]
     refine TG.pack (fun K => Rows (RPart) 2 K (css322 ++ [[.int .i64 x424.day, .slice ad506 e503.length cap507]]) (s319.2 ++ [(⟨x424.day, e503⟩ : Part)])) (fun H le => (hR324.mono (RPart.mono) (le.at 1 rfl)).snoc (cs := [.int .i64 x424.day, .slice ad506 e503.length cap507]) (x := (⟨x424.day, e503⟩ : Part)) rfl rfl ⟨_, _, rfl, (hl553.mono (Flat.mono _) (le.at 0 rfl))⟩) fun K559 hR560 => (ap1R 7 [.int .i64 x424.day, .slice ad506 e503.length cap507] (⟨x424.day, e503⟩ : Part) (l := s319.2) (css := css322) T10.E40 rfl rfl rfl rfl rfl rfl rfl rfl rfl rfl rfl rfl hk554 fun ad556 cap557 u558 => (fb 4 U42 rfl rfl rfl rfl Z40 (sto 2 (cs := [.slice ad556 ((s319.2 ++ [(⟨x424.day, e503⟩ : Part)]).length) cap557]) Z40 rfl rfl rfl rfl rfl rfl rfl (on (rg (m1 rfl (adI rfl rfl rfl (by omega) (a1 rfl (on (TG.del 3 ?_))))))))))
     cases hr555
     intro a w hS hA
     exact ⟨_, hz326, ad556, cap557, (css322 ++ [[Value.int .i64 x424.day, Value.slice ad506 e503.length cap507]]), K559, hS.selH [0, 3, 4] rfl, hA.cut ⟨rfl, rfl, rfl, rfl, tv⟩, hR560⟩
   ·have hr561 := if_n hc331 hr325
    refine xt rfl ?_
    cases hr561
    obtain rfl := Fin.out hz326
    intro a w hS hA
    exact ⟨ad320, cap321, css322, K323, hS, hA.cut ⟨rfl, rfl, tv⟩, hR324⟩
 ·rintro a w ⟨ad314, cap315, css316, K317, hS, hA, hR318⟩
  refine TG.ap ?_ hS hA
  refine sq (rg (ldA G42 Z42 rfl rfl (sO 2 rfl) rfl (sto 1 (cs := [.int .i64 v_0.number, .int .i64 v_0.bound, .int .i64 v_0.height, .int .i64 v_0.width, .slice ad314 e311.length cap315]) Z42 rfl rfl rfl rfl rfl rfl rfl (on (rt_ ?_)))))
  cases hr313
  intro a w hS hA
  refine rc1 hA rfl (ResAt.cell rfl (loadsA G42 Z42 (cell_at (hS.get (t := 1) rfl)) rfl)) ?_
  exact ⟨⟨_, rfl, ⟨_, _, rfl, (hS.rowsOut 7 rfl 0 rfl (RPart.mono) hR318)⟩⟩, hS.ext⟩

theorem w36 {M : Prop} {W : World} {cs_x_0 : List Value} (x_0 : Erratum) (h_x_0 : (Flat encErratum) (hp W) cs_x_0 x_0) {r : Erratum} (hr : m36 x_0 = some r) : Calls Tryz.prog 36 [.agg cs_x_0.toArray].toArray W (RetS M W (.agg (encErratum r).toArray)) := by
 obtain rfl := h_x_0
 unfold m36 at hr
 refine enterG (M := M) Tryz.func36 rfl Tryz.ntmps36 rfl (Hp.le.refl _) ?_
 refine sq (rg (bI (cs := [.int .i64 x_0.number, .int .i64 x_0.day, .int .u8 x_0.kind, .int .i64 x_0.anchor, .string (bs x_0.text), .int .i64 x_0.new_]) rfl rfl rfl fun q1 K2 hK3 => (al 1 (cs := [.int .i64 0, .int .i64 0, .int .u8 0, .int .i64 0, .string (bs []), .int .i64 0]) Tryz.zeroValue116 rfl rfl fun b4 => (on (sq (rg (fb 0 U97 rfl rfl rfl rfl Z3 (ld G3 rfl rfl ((sS 0 rfl hK3).take 1) rfl (fb 1 U97 rfl rfl rfl rfl Z3 (ld G3 rfl rfl (((sS 0 rfl hK3).drop 1).take 1) rfl (fb 2 U97 rfl rfl rfl rfl Z5 ?_)))))))))))
 refine ld G5 rfl rfl (((sS 0 rfl hK3).drop 2).take 1) rfl (fb 3 U97 rfl rfl rfl rfl Z3 (ld G3 rfl rfl (((sS 0 rfl hK3).drop 3).take 1) rfl (fb 4 U97 rfl rfl rfl rfl Z9 (ld G9 rfl rfl (((sS 0 rfl hK3).drop 4).take 1) rfl (fb 5 U97 rfl rfl rfl rfl Z3 (ld G3 rfl rfl ((sS 0 rfl hK3).drop 5) rfl (bu (cs := [.int .i64 x_0.number, .int .i64 x_0.day, .int .u8 x_0.kind, .int .i64 x_0.anchor, .string (bs x_0.text), .int .i64 x_0.new_]) T10.B116 rfl rfl rfl (sto 1 (cs := [.int .i64 x_0.number, .int .i64 x_0.day, .int .u8 x_0.kind, .int .i64 x_0.anchor, .string (bs x_0.text), .int .i64 x_0.new_]) Z116 rfl rfl rfl rfl rfl rfl rfl (on (rt_ ?_))))))))))
 obtain rfl := sj hr
 intro a w hS hA
 refine rc1 hA rfl (ResAt.cell rfl (loadsA G116 Z116 (cell_at (hS.get (t := 1) rfl)) rfl)) ?_
 exact ⟨rfl, hS.ext⟩

theorem w12 {M : Prop} {W : World} {H : Hp} (hH : H.le (hp W)) {ad_l_0 : Option Addr} {cap_l_0 : Nat} {l_0 : List Erratum} (h_l_0 : Sl (Flat encErratum) 6 H ad_l_0 cap_l_0 l_0) {r : List Erratum} (hr : m12 l_0 = some r) : Calls Tryz.prog 12 [.slice ad_l_0 l_0.length cap_l_0].toArray W (RetK M H W (fun v K => ∃ (ad0 : Option Addr) (cap0 : Nat), v = .slice ad0 r.length cap0 ∧ Sl (Flat encErratum) 6 K ad0 cap0 r)) := by
 have := h_l_0.len
 unfold m12 at hr
 refine enterG (M := M) Tryz.func12 rfl Tryz.ntmps12 rfl hH ?_
 refine sq (rg (a1 rfl (on (sq (rg (a1 rfl (on (sq (sq (rg (a1 rfl ?_)))))))))))
 refine on (TG.nilRow 2 116 6 (TG.as 2 (z := Own.list none 0 116 6 encErratum ([] : List Erratum)) rfl rfl ?_))
 obtain ⟨e67, hl68, hr69⟩ := bd_some hr
 refine jn (fun a w => ∃ (ad70 : Option Addr) (cap71 : Nat), St M W H [H] [(2, Own.list ad70 cap71 116 6 encErratum e67)] w ∧ Has [] 20 a [(3, .slice ad70 e67.length cap71)]) ?_ ?_
 ·refine bk ?_
  refine lp hl68 (fun s72 a w => ∃ (ad73 : Option Addr) (cap74 : Nat), St M W H [H] [(2, Own.list ad73 cap74 116 6 encErratum s72.2)] w ∧ Has [] 20 a [(0, .slice ad_l_0 l_0.length cap_l_0), (3, .slice ad73 s72.2.length cap74), (4, .int .i64 (s72.1 : Int))]) ?_ ?_
  ·intro a w hS hA
   exact ⟨none, 0, hS, hA.cut ⟨rfl, rfl, rfl, tv⟩⟩
  ·rintro j s72 y77 hr75 hz76 a w ⟨ad73, cap74, hS, hA⟩
   refine TG.ap ?_ hS hA
   unfold m12_1 at hr75
   refine sq (sq (rg (m1 rfl (m1 rfl (lnL U25 rfl rfl (ltI rfl rfl rfl (on ?_)))))))
   refine ci rfl (fun hc81 => ?_) (fun hc81 => ?_)
   ·have hr82 := if_p hc81 hr75
    refine sk (sq (bk (rg (m1 rfl (m1 rfl (m1 rfl ?_))))))
    obtain ⟨x99, hx100, hr101⟩ := bd_some hr82
    obtain ⟨p102, rfl⟩ := h_l_0.adr hx100
    obtain ⟨cs103, hcs104, hq105, hr106⟩ := h_l_0.at hx100
    obtain rfl := hr106
    refine iaP U25 Z97 rfl rfl rfl rfl (lt_of hx100) (ldA G97 Z97 rfl rfl (sS 0 rfl hq105) rfl ?_)
    obtain ⟨r107, hx108, hr109⟩ := bd_some hr101
    refine clS C36 rfl rfl rfl rfl (fun w H hH le => w36 x99 rfl hx108) ?_
    obtain ⟨hk110, hr111⟩ := chk_some hr109
    have := lenA s72.2 [r107]
    have := len1 r107
    refine ap1 2 encErratum (l := s72.2) r107 T10.E44 rfl rfl rfl rfl rfl rfl rfl rfl rfl rfl rfl rfl hk110 fun ad112 cap113 u114 => (a1 rfl (on (rg (m1 rfl (adI rfl rfl rfl (by omega) (a1 rfl (on ?_)))))))
    cases hr111
    intro a w hS hA
    exact ⟨_, hz76, ad112, cap113, hS, hA.cut ⟨rfl, rfl, rfl, tv⟩⟩
   ·have hr115 := if_n hc81 hr75
    refine xt rfl ?_
    cases hr115
    obtain rfl := Fin.out hz76
    intro a w hS hA
    exact ⟨ad73, cap74, hS, hA.cut ⟨rfl, tv⟩⟩
 ·rintro a w ⟨ad70, cap71, hS, hA⟩
  refine TG.ap ?_ hS hA
  refine sq (rg (m1 rfl (a1 rfl (on (rt_ ?_)))))
  cases hr69
  intro a w hS hA
  refine ret1 hA rfl rfl ?_
  exact ⟨⟨_, _, rfl, (hS.listOut 2 rfl (fun _ => rfl))⟩, hS.ext⟩

theorem w10 {M : Prop} {W : World} {H : Hp} (hH : H.le (hp W)) {cs_v_0 : List Value} (v_0 : Volume) (h_v_0 : (RVolume) H cs_v_0 v_0) {ad_errata : Option Addr} {cap_errata : Nat} {errata : List Erratum} (h_errata : Sl (Flat encErratum) 6 H ad_errata cap_errata errata) (to_2 : Int) {r : List Paragraph × Int} (hr : m10 v_0 errata to_2 = some r) : Calls Tryz.prog 10 [.agg cs_v_0.toArray, .slice ad_errata errata.length cap_errata, .int .i64 to_2].toArray W (RetK M H W (fun v K => ∃ (ad0 : Option Addr) (cap0 : Nat), v = .tuple [.slice ad0 r.1.length cap0, .int .i64 r.2].toArray ∧ Sl (Flat encParagraph) 2 K ad0 cap0 r.1)) := by
 have hh_v_0 := h_v_0
 obtain ⟨ad1, cap2, rfl, hl3⟩ := h_v_0
 have := hl3.len
 have := h_errata.len
 unfold m10 at hr
 refine enterG (M := M) Tryz.func10 rfl Tryz.ntmps10 rfl hH ?_
 refine sq (rg (bI (cs := [.int .i64 v_0.number, .int .i64 v_0.bound, .int .i64 v_0.height, .int .i64 v_0.width, .slice ad1 v_0.parts.length cap2]) rfl rfl rfl fun q4 K5 hK6 => (a1 rfl (a1 rfl (on (sq (sq (rg (ldA G42 Z42 rfl rfl (sS 0 rfl hK6) rfl (m1 rfl ?_))))))))))
 obtain ⟨r7, hx8, hr9⟩ := bd_some hr
 refine clS C33 rfl rfl rfl rfl (fun w H hH le => w33 hH v_0 (RVolume.mono _ _ _ _ (le.at 1 rfl) hh_v_0) (h_errata.mono (Flat.mono _) (le.at 1 rfl)) hx8) (a1 rfl (on (sq (rg (m1 rfl (neI rfl rfl rfl (on ?_)))))))
 refine ci rfl (fun hc13 => ?_) (fun hc13 => ?_)
 ·have hr14 := if_p hc13 hr9
  refine sq (rg (m1 rfl (a1 rfl (a1 rfl (on (rt_ ?_))))))
  cases hr14
  intro a w hS hA
  refine ret2 hA rfl rfl rfl ?_
  exact ⟨⟨_, _, rfl, (Sl.nil _ _ _ _ _ (by decide))⟩, hS.ext⟩
 ·have hr15 := if_n hc13 hr9
  refine sk (sq (sq (rg (m1 rfl ?_))))
  obtain ⟨r16, hx17, hr18⟩ := bd_some hr15
  refine clS C34 rfl rfl rfl rfl (fun w H hH le => w34 to_2 hx17) (nt rfl rfl (on ?_))
  refine cb rfl (fun hc22 => ?_) (fun hc22 => ?_)
  ·replace hc22 := nbt hc22
   have hr23 := if_f hc22 hr18
   refine sq (rg (a1 rfl (a1 rfl (on (rt_ ?_)))))
   cases hr23
   intro a w hS hA
   refine ret2 hA rfl rfl rfl ?_
   exact ⟨⟨_, _, rfl, (Sl.nil _ _ _ _ _ (by decide))⟩, hS.ext⟩
  ·replace hc22 := nbf hc22
   have hr24 := if_p hc22 hr18
   refine sk (sq (rg (a1 rfl (on (sq (sq (rg (ldA G42 Z42 rfl rfl (sS 0 rfl hK6) rfl (m1 rfl (m1 rfl ?_))))))))))
   obtain ⟨r25, hx26, hr27⟩ := bd_some hr24
   refine clK C35 rfl rfl rfl rfl (fun w H hH le => w35 hH v_0 (RVolume.mono _ _ _ _ (le.at 1 rfl) hh_v_0) (h_errata.mono (Flat.mono _) (le.at 1 rfl)) to_2 hx26) ?_
   rintro v_ K28 ⟨q29, cs30, rfl, hc31, hr32⟩
   have hr33 := hr32
   obtain ⟨ad34, cap35, ad37, cap38, rfl, hl36, hl39⟩ := hr32
   have := hl36.len
   have := hl39.len
   refine nl rfl rfl (fb 5 U110 rfl rfl rfl rfl Z108 (ld G108 rfl rfl ((sS 0 rfl hc31).drop 5) rfl (lnL U108 rfl rfl (m1 rfl (on (TG.nilRow 2 52 2 (TG.as 2 (z := Own.list none 0 52 2 encParagraph ([] : List Paragraph)) rfl rfl ?_)))))))
   obtain ⟨e361, hl362, hr363⟩ := bd_some hr27
   refine jn (fun a w => ∃ (ad364 : Option Addr) (cap365 : Nat), St M W H [K28, K5, H] [(2, Own.list ad364 cap365 52 2 encParagraph e361)] w ∧ Has [] 52 a [(9, .slice ad364 e361.length cap365)]) ?_ ?_
   ·refine bk ?_
    refine lp hl362 (fun s366 a w => ∃ (ad367 : Option Addr) (cap368 : Nat), St M W H [K28, K5, H] [(2, Own.list ad367 cap368 52 2 encParagraph s366.2)] w ∧ Has [] 52 a [(9, .slice ad367 s366.2.length cap368), (29, .slice ad37 r25.parts.length cap38), (30, .int .i64 (r25.parts.length : Int)), (31, .int .i64 (s366.1 : Int))]) ?_ ?_
    ·intro a w hS hA
     exact ⟨none, 0, hS, hA.cut ⟨rfl, rfl, rfl, rfl, tv⟩⟩
    ·rintro j s366 y371 hr369 hz370 a w ⟨ad367, cap368, hS, hA⟩
     refine TG.ap ?_ hS hA
     unfold m10_1 at hr369
     refine sq (rg (ltI rfl rfl rfl (on (sq ?_))))
     refine ci rfl (fun hc375 => ?_) (fun hc375 => ?_)
     ·have hr376 := if_p hc375 hr369
      refine sk (sq (bk (sq (rg ?_))))
      obtain ⟨x475, hx476, hr477⟩ := bd_some hr376
      obtain ⟨p478, rfl⟩ := hl39.adr hx476
      obtain ⟨cs479, hcs480, hq481, hr482⟩ := hl39.at hx476
      have hr483 := hr482
      obtain ⟨ad484, cap485, rfl, hl486⟩ := hr482
      have := hl486.len
      refine iaP U108 Z113 rfl rfl rfl rfl (lt_of hx476) (ld G113 rfl rfl (sS 0 rfl hq481) rfl (a1 rfl (on (sq (rg (m1 rfl (lnL U113 rfl rfl (m1 rfl (on ?_)))))))))
      obtain ⟨e570, hl571, hr572⟩ := bd_some hr477
      refine jn (fun a w => ∃ (ad573 : Option Addr) (cap574 : Nat), St M W H [K28, K5, H] [(2, Own.list ad573 cap574 52 2 encParagraph e570)] w ∧ Has [] 52 a [(9, .slice ad573 e570.length cap574), (29, .slice (some p478) r25.parts.length cap38), (30, .int .i64 (r25.parts.length : Int)), (31, .int .i64 (s366.1 : Int))]) ?_ ?_
      ·refine bk ?_
       refine lp hl571 (fun s575 a w => ∃ (ad576 : Option Addr) (cap577 : Nat), St M W H [K28, K5, H] [(2, Own.list ad576 cap577 52 2 encParagraph s575.2)] w ∧ Has [] 52 a [(9, .slice ad576 s575.2.length cap577), (29, .slice (some p478) r25.parts.length cap38), (30, .int .i64 (r25.parts.length : Int)), (31, .int .i64 (s366.1 : Int)), (35, .slice ad484 x475.length cap485), (36, .int .i64 (x475.length : Int)), (37, .int .i64 (s575.1 : Int))]) ?_ ?_
       ·intro a w hS hA
        exact ⟨ad367, cap368, hS, hA.cut ⟨rfl, rfl, rfl, rfl, rfl, rfl, rfl, tv⟩⟩
       ·rintro j s575 y580 hr578 hz579 a w ⟨ad576, cap577, hS, hA⟩
        refine TG.ap ?_ hS hA
        unfold m10_2 at hr578
        refine sq (rg (ltI rfl rfl rfl (on (sq ?_))))
        refine ci rfl (fun hc584 => ?_) (fun hc584 => ?_)
        ·have hr585 := if_p hc584 hr578
         refine sk (sq (bk (sq (rg ?_))))
         obtain ⟨x608, hx609, hr610⟩ := bd_some hr585
         obtain ⟨p611, rfl⟩ := hl486.adr hx609
         obtain ⟨cs612, hcs613, hq614, hr615⟩ := hl486.at hx609
         obtain rfl := hr615
         refine iaP U113 Z115 rfl rfl rfl rfl (lt_of hx609) (ldA G115 Z115 rfl rfl (sS 0 rfl hq614) rfl (va (cs := [.int .i64 x608.paragraph.anchor, .string (bs x608.paragraph.text), .bool x608.removed]) Tryz.zeroValue115 Z115 rfl rfl rfl rfl rfl rfl rfl rfl fun q616 K617 hK618 => (on (sq (rg (fb 2 U115 rfl rfl rfl rfl Z4 (ld G4 rfl rfl ((sS 0 rfl hK618).drop 2) rfl (nt rfl rfl (on ?_)))))))))
         obtain ⟨t627, hx628, hr629⟩ := bd_some hr610
         refine jn (fun a w => ∃ (ad630 : Option Addr) (cap631 : Nat), St M W H [K617, K28, K5, H] [(2, Own.list ad630 cap631 52 2 encParagraph t627)] w ∧ Has [] 52 a [(9, .slice ad630 t627.length cap631), (29, .slice (some p478) r25.parts.length cap38), (30, .int .i64 (r25.parts.length : Int)), (31, .int .i64 (s366.1 : Int)), (35, .slice (some p611) x475.length cap485), (36, .int .i64 (x475.length : Int)), (37, .int .i64 (s575.1 : Int))]) ?_ ?_
         ·refine cb rfl (fun hc632 => ?_) (fun hc632 => ?_)
          ·replace hc632 := nbt hc632
           have hr633 := if_f hc632 hx628
           refine rg (m1 rfl (fb 0 U115 rfl rfl rfl rfl Z52 (ldA G52 Z52 rfl rfl ((sS 0 rfl hK618).take 2) rfl ?_)))
           obtain ⟨hk634, hr635⟩ := chk_some hr633
           have := lenA s575.2 [x608.paragraph]
           have := len1 x608.paragraph
           refine ap1 2 encParagraph (l := s575.2) x608.paragraph T10.E36 rfl rfl rfl rfl rfl rfl rfl rfl rfl rfl rfl rfl hk634 fun ad636 cap637 u638 => (a1 rfl (on ?_))
           cases hr635
           intro a w hS hA
           exact ⟨ad636, cap637, hS, hA.cut ⟨rfl, rfl, rfl, rfl, rfl, rfl, rfl, tv⟩⟩
          ·replace hc632 := nbf hc632
           have hr639 := if_p hc632 hx628
           refine sk ?_
           cases hr639
           intro a w hS hA
           exact ⟨ad576, cap577, hS, hA.cut ⟨rfl, rfl, rfl, rfl, rfl, rfl, rfl, tv⟩⟩
         ·rintro a w ⟨ad630, cap631, hS, hA⟩
          refine TG.ap ?_ hS hA
          refine rg (adI rfl rfl rfl (by omega) (m1 rfl (on ?_)))
          cases hr629
          intro a w hS hA
          exact ⟨_, hz579, ad630, cap631, hS.selH [1, 2, 3] rfl, hA.cut ⟨rfl, rfl, rfl, rfl, rfl, rfl, rfl, tv⟩⟩
        ·have hr640 := if_n hc584 hr578
         refine xt rfl ?_
         cases hr640
         obtain rfl := Fin.out hz579
         intro a w hS hA
         exact ⟨ad576, cap577, hS, hA.cut ⟨rfl, rfl, rfl, rfl, tv⟩⟩
      ·rintro a w ⟨ad573, cap574, hS, hA⟩
       refine TG.ap ?_ hS hA
       refine rg (adI rfl rfl rfl (by omega) (m1 rfl (on ?_)))
       cases hr572
       intro a w hS hA
       exact ⟨_, hz370, ad573, cap574, hS, hA.cut ⟨rfl, rfl, rfl, rfl, tv⟩⟩
     ·have hr641 := if_n hc375 hr369
      refine xt rfl ?_
      cases hr641
      obtain rfl := Fin.out hz370
      intro a w hS hA
      exact ⟨ad367, cap368, hS, hA.cut ⟨rfl, tv⟩⟩
   ·rintro a w ⟨ad364, cap365, hS, hA⟩
    refine TG.ap ?_ hS hA
    refine sq (rg (m1 rfl (a1 rfl (a1 rfl (on (rt_ ?_))))))
    cases hr363
    intro a w hS hA
    refine ret2 hA rfl rfl rfl ?_
    exact ⟨⟨_, _, rfl, (hS.listOut 2 rfl (fun _ => rfl))⟩, hS.ext⟩

theorem w37 {M : Prop} {W : World} {H : Hp} (hH : H.le (hp W)) {cs_v_0 : List Value} (v_0 : Volume) (h_v_0 : (RVolume) H cs_v_0 v_0) {ad_errata : Option Addr} {cap_errata : Nat} {errata : List Erratum} (h_errata : Sl (Flat encErratum) 6 H ad_errata cap_errata errata) (anchor : Int) (to_3 : Int) {r : Bytes × Bool × Int} (hr : m37 v_0 errata anchor to_3 = some r) : Calls Tryz.prog 37 [.agg cs_v_0.toArray, .slice ad_errata errata.length cap_errata, .int .i64 anchor, .int .i64 to_3].toArray W (RetS M W (.tuple [.string (bs r.1), .bool r.2.1, .int .i64 r.2.2].toArray)) := by
 have hh_v_0 := h_v_0
 obtain ⟨ad1, cap2, rfl, hl3⟩ := h_v_0
 have := hl3.len
 have := h_errata.len
 unfold m37 at hr
 refine enterG (M := M) Tryz.func37 rfl Tryz.ntmps37 rfl hH ?_
 refine sq (rg (bI (cs := [.int .i64 v_0.number, .int .i64 v_0.bound, .int .i64 v_0.height, .int .i64 v_0.width, .slice ad1 v_0.parts.length cap2]) rfl rfl rfl fun q4 K5 hK6 => (a1 rfl (a1 rfl (a1 rfl (on (sq (sq (rg (ldA G42 Z42 rfl rfl (sS 0 rfl hK6) rfl (m1 rfl ?_)))))))))))
 obtain ⟨r7, hx8, hr9⟩ := bd_some hr
 refine clS C33 rfl rfl rfl rfl (fun w H hH le => w33 hH v_0 (RVolume.mono _ _ _ _ (le.at 1 rfl) hh_v_0) (h_errata.mono (Flat.mono _) (le.at 1 rfl)) hx8) (a1 rfl (on (sq (rg (m1 rfl (neI rfl rfl rfl (on ?_)))))))
 refine ci rfl (fun hc13 => ?_) (fun hc13 => ?_)
 ·have hr14 := if_p hc13 hr9
  refine sq (rg (m1 rfl (a1 rfl (a1 rfl (a1 rfl (on (rt_ ?_)))))))
  cases hr14
  intro a w hS hA
  refine ret3 hA rfl rfl rfl rfl ?_
  exact ⟨rfl, hS.ext⟩
 ·have hr15 := if_n hc13 hr9
  refine sk (sq (sq (rg (m1 rfl ?_))))
  obtain ⟨r16, hx17, hr18⟩ := bd_some hr15
  refine clS C34 rfl rfl rfl rfl (fun w H hH le => w34 to_3 hx17) (nt rfl rfl (on ?_))
  refine cb rfl (fun hc22 => ?_) (fun hc22 => ?_)
  ·replace hc22 := nbt hc22
   have hr23 := if_f hc22 hr18
   refine sq (rg (a1 rfl (a1 rfl (a1 rfl (on (rt_ ?_))))))
   cases hr23
   intro a w hS hA
   refine ret3 hA rfl rfl rfl rfl ?_
   exact ⟨rfl, hS.ext⟩
  ·replace hc22 := nbf hc22
   have hr24 := if_p hc22 hr18
   refine sk (sq (rg (ldA G42 Z42 rfl rfl (sS 0 rfl hK6) rfl (m1 rfl (m1 rfl ?_)))))
   obtain ⟨r25, hx26, hr27⟩ := bd_some hr24
   refine clK C35 rfl rfl rfl rfl (fun w H hH le => w35 hH v_0 (RVolume.mono _ _ _ _ (le.at 1 rfl) hh_v_0) (h_errata.mono (Flat.mono _) (le.at 1 rfl)) to_3 hx26) ?_
   rintro v_ K28 ⟨q29, cs30, rfl, hc31, hr32⟩
   have hr33 := hr32
   obtain ⟨ad34, cap35, ad37, cap38, rfl, hl36, hl39⟩ := hr32
   have := hl36.len
   have := hl39.len
   refine a1 rfl (on (sq (rg (m1 rfl (m1 rfl ?_)))))
   obtain ⟨t74, hx75, hr76⟩ := bd_some hr27
   refine clI C56 Tryz.func56 rfl Tryz.ntmps56 rfl rfl rfl rfl (fun v w => (v = .tuple [.int .i64 (t74.2.1 : Int), .int .i64 (t74.1 : Int), .bool t74.2.2].toArray ∧ St M W H [K28, K5, H] [] w)) ?_ ?_
   ·refine sq (rg (a1 rfl (a1 rfl (a1 rfl (on (sc (sq (lb (sq (sq (rg ?_)))))))))))
    refine m1 rfl (nl rfl rfl (fb 5 U110 rfl rfl rfl rfl Z108 (ld G108 rfl rfl ((sS 0 rfl hc31).drop 5) rfl (lnL U108 rfl rfl (m1 rfl (on ?_))))))
    obtain ⟨e110, hl111, hr112⟩ := bd_some hx75
    refine jn (fun a w => St M W H [K28, K5, H] [] w ∧ Has [] 40 a [(4, .int .i64 (e110.1 : Int)), (5, .int .i64 (e110.2.1 : Int)), (6, .bool e110.2.2)]) ?_ ?_
    ·refine bk ?_
     refine lp hl111 (fun s113 a w => St M W H [K28, K5, H] [] w ∧ Has [] 40 a [(1, .int .i64 anchor), (4, .int .i64 (s113.1 : Int)), (5, .int .i64 (s113.2.1 : Int)), (6, .bool s113.2.2.2), (14, .slice ad37 r25.parts.length cap38), (15, .int .i64 (r25.parts.length : Int)), (16, .int .i64 (s113.2.2.1 : Int))]) ?_ ?_
     ·exact cu ⟨rfl, rfl, rfl, rfl, rfl, rfl, rfl, tv⟩
     ·rintro j s113 y116 hr114 hz115 a w ⟨hS, hA⟩
      refine TG.ap ?_ hS hA
      unfold m37_1 at hr114
      refine sq (rg (ltI rfl rfl rfl (on (sq ?_))))
      refine ci rfl (fun hc120 => ?_) (fun hc120 => ?_)
      ·have hr121 := if_p hc120 hr114
       refine sk (sq (bk (sq (rg (m1 rfl ?_)))))
       obtain ⟨x151, hx152, hr153⟩ := bd_some hr121
       obtain ⟨p154, rfl⟩ := hl39.adr hx152
       obtain ⟨cs155, hcs156, hq157, hr158⟩ := hl39.at hx152
       have hr159 := hr158
       obtain ⟨ad160, cap161, rfl, hl162⟩ := hr158
       have := hl162.len
       refine iaP U108 Z113 rfl rfl rfl rfl (lt_of hx152) (ld G113 rfl rfl (sS 0 rfl hq157) rfl (a1 rfl (a1 rfl (on (sq (rg (m1 rfl (lnL U113 rfl rfl (m1 rfl (on ?_))))))))))
       obtain ⟨e179, hl180, hr181⟩ := bd_some hr153
       refine jn (fun a w => ∃ t182, e179 = .inl t182 ∧ St M W H [K28, K5, H] [] w ∧ Has [] 40 a [(1, .int .i64 anchor), (4, .int .i64 (t182.1 : Int)), (5, .int .i64 (t182.2.1 : Int)), (6, .bool t182.2.2), (14, .slice (some p154) r25.parts.length cap38), (15, .int .i64 (r25.parts.length : Int)), (16, .int .i64 (s113.2.2.1 : Int))]) ?_ ?_
       ·refine bk ?_
        refine lp hl180 (fun s183 a w => St M W H [K28, K5, H] [] w ∧ Has [] 40 a [(1, .int .i64 anchor), (4, .int .i64 (s183.1 : Int)), (5, .int .i64 (s183.2.1 : Int)), (6, .bool s183.2.2.2), (7, .int .i64 (s113.2.2.1 : Int)), (14, .slice (some p154) r25.parts.length cap38), (15, .int .i64 (r25.parts.length : Int)), (16, .int .i64 (s113.2.2.1 : Int)), (21, .slice ad160 x151.length cap161), (22, .int .i64 (x151.length : Int)), (23, .int .i64 (s183.2.2.1 : Int))]) ?_ ?_
        ·exact cu ⟨rfl, rfl, rfl, rfl, rfl, rfl, rfl, rfl, rfl, rfl, rfl, tv⟩
        ·rintro j s183 y186 hr184 hz185 a w ⟨hS, hA⟩
         refine TG.ap ?_ hS hA
         unfold m37_2 at hr184
         refine sq (rg (ltI rfl rfl rfl (on (sq ?_))))
         refine ci rfl (fun hc190 => ?_) (fun hc190 => ?_)
         ·have hr191 := if_p hc190 hr184
          refine sk (sq (bk (sq (rg (m1 rfl ?_)))))
          obtain ⟨x204, hx205, hr206⟩ := bd_some hr191
          obtain ⟨p207, rfl⟩ := hl162.adr hx205
          obtain ⟨cs208, hcs209, hq210, hr211⟩ := hl162.at hx205
          obtain rfl := hr211
          refine iaP U113 Z115 rfl rfl rfl rfl (lt_of hx205) (ldA G115 Z115 rfl rfl (sS 0 rfl hq210) rfl (al 1 (cs := [.int .i64 0, .string (bs []), .bool false]) Tryz.zeroValue115 rfl rfl fun b212 => (a1 rfl (sto 1 (cs := [.int .i64 x204.paragraph.anchor, .string (bs x204.paragraph.text), .bool x204.removed]) Z115 rfl rfl rfl rfl rfl rfl rfl (on (sq (rg (fb 0 U115 rfl rfl rfl rfl Z52 (fb 0 U52 rfl rfl rfl rfl Z3 (ld G3 rfl rfl ((sO 1 rfl).take 1) rfl (m1 rfl ?_)))))))))))
          refine eqI rfl rfl rfl (on ?_)
          refine ci rfl (fun hc216 => ?_) (fun hc216 => ?_)
          ·have hr217 := if_p hc216 hr206
           refine sq (rg (m1 rfl (m1 rfl (a1 rfl (a1 rfl (a1 rfl (on (xt rfl ?_))))))))
           obtain ⟨z218, hr219, rfl⟩ := mp_some hr217
           obtain rfl := Fin.out hz185
           cases hr181
           refine TG.del 1 ?_
           cases hr219
           obtain rfl := Fin.out hz115
           exact cu ⟨rfl, rfl, rfl, tv⟩
          ·have hr220 := if_n hc216 hr206
           refine sk (rg (adI rfl rfl rfl (by omega) (m1 rfl (on (TG.del 1 ?_)))))
           cases hr220
           intro a w hS hA
           exact ⟨_, hz185, hS, hA.cut ⟨rfl, rfl, rfl, rfl, rfl, rfl, rfl, rfl, rfl, rfl, rfl, tv⟩⟩
         ·have hr221 := if_n hc190 hr184
          refine xt rfl ?_
          cases hr221
          obtain rfl := Fin.out hz185
          intro a w hS hA
          exact ⟨_, rfl, hS, hA.cut ⟨rfl, rfl, rfl, rfl, rfl, rfl, rfl, tv⟩⟩
       ·rintro a w ⟨t182, rfl, hS, hA⟩
        refine TG.ap ?_ hS hA
        refine rg (adI rfl rfl rfl (by omega) (m1 rfl (on ?_)))
        cases hr181
        intro a w hS hA
        exact ⟨_, hz115, hS, hA.cut ⟨rfl, rfl, rfl, rfl, rfl, rfl, rfl, tv⟩⟩
      ·have hr222 := if_n hc120 hr114
       refine xt rfl ?_
       cases hr222
       obtain rfl := Fin.out hz115
       exact cu ⟨rfl, rfl, rfl, tv⟩
    ·rintro a w ⟨hS, hA⟩
     refine TG.ap ?_ hS hA
     refine sq (rg (m1 rfl (m1 rfl (m1 rfl (a1 rfl (a1 rfl (a1 rfl (on (rt_ ?_)))))))))
     cases hr112
     intro a w hS hA
     refine ret3 hA rfl rfl rfl rfl ?_
     exact ⟨_, rfl, ⟨rfl, hS⟩⟩
   ·rintro a w v hA (⟨rfl, hS⟩)
    refine putK rfl hA hS (m1 rfl (ex rfl rfl rfl (ex rfl rfl rfl (ex rfl rfl rfl (a1 rfl (a1 rfl (a1 rfl (on (sq (sq (rg ?_)))))))))))
    refine m1 rfl (nt rfl rfl (on ?_))
    refine cb rfl (fun hc226 => ?_) (fun hc226 => ?_)
    ·replace hc226 := nbt hc226
     have hr227 := if_f hc226 hr76
     refine sq (rg (a1 rfl (a1 rfl (a1 rfl (on (rt_ ?_))))))
     cases hr227
     intro a w hS hA
     refine ret3 hA rfl rfl rfl rfl ?_
     exact ⟨rfl, hS.ext⟩
    ·replace hc226 := nbf hc226
     have hr228 := if_p hc226 hr76
     refine sk (sq (rg (m1 rfl (nl rfl rfl (fb 5 U110 rfl rfl rfl rfl Z108 (ld G108 rfl rfl ((sS 0 rfl hc31).drop 5) rfl (m1 rfl ?_)))))))
     obtain ⟨x229, hx230, hr231⟩ := bd_some hr228
     obtain ⟨p232, rfl⟩ := hl39.adr hx230
     obtain ⟨cs233, hcs234, hq235, hr236⟩ := hl39.at hx230
     have hr237 := hr236
     obtain ⟨ad238, cap239, rfl, hl240⟩ := hr236
     have := hl240.len
     refine iaP U108 Z113 rfl rfl rfl rfl (lt_of hx230) (ld G113 rfl rfl (sS 0 rfl hq235) rfl (m1 rfl ?_))
     obtain ⟨x241, hx242, hr243⟩ := bd_some hr231
     obtain ⟨p244, rfl⟩ := hl240.adr hx242
     obtain ⟨cs245, hcs246, hq247, hr248⟩ := hl240.at hx242
     obtain rfl := hr248
     refine iaP U113 Z115 rfl rfl rfl rfl (lt_of hx242) (ldA G115 Z115 rfl rfl (sS 0 rfl hq247) rfl (va (cs := [.int .i64 x241.paragraph.anchor, .string (bs x241.paragraph.text), .bool x241.removed]) Tryz.zeroValue115 Z115 rfl rfl rfl rfl rfl rfl rfl rfl fun q249 K250 hK251 => (on (sq ?_))))
     refine TG.cut (L' := [(0, .agg [.int .i64 v_0.number, .int .i64 v_0.bound, .int .i64 v_0.height, .int .i64 v_0.width, .slice ad1 v_0.parts.length cap2].toArray), (1, .slice ad_errata errata.length cap_errata), (2, .int .i64 anchor), (3, .int .i64 to_3), (4, .pointer (some q4)), (9, .bool false), (10, .int .i64 0), (11, .int .i64 r7), (12, .pointer (some q29)), (13, .int .i64 (t74.2.1 : Int)), (14, .int .i64 (t74.1 : Int)), (15, .bool t74.2.2), (16, .pointer (some q249)), (17, .agg [.int .i64 v_0.number, .int .i64 v_0.bound, .int .i64 v_0.height, .int .i64 v_0.width, .slice ad1 v_0.parts.length cap2].toArray), (18, .slice ad_errata errata.length cap_errata), (19, .int .i64 r7), (20, .int .i64 r7), (21, .bool (decide (r7 ≠ 0))), (23, .int .i64 to_3), (24, .bool r16), (25, .bool (!r16)), (26, .agg [.int .i64 v_0.number, .int .i64 v_0.bound, .int .i64 v_0.height, .int .i64 v_0.width, .slice ad1 v_0.parts.length cap2].toArray), (27, .slice ad_errata errata.length cap_errata), (28, .int .i64 to_3), (29, .pointer (some q29)), (30, .tuple [.int .i64 (t74.2.1 : Int), .int .i64 (t74.1 : Int), .bool t74.2.2].toArray), (31, .pointer (some q29)), (32, .int .i64 anchor), (33, .tuple [.int .i64 (t74.2.1 : Int), .int .i64 (t74.1 : Int), .bool t74.2.2].toArray), (34, .int .i64 (t74.2.1 : Int)), (35, .int .i64 (t74.1 : Int)), (36, .bool t74.2.2), (37, .bool t74.2.2), (38, .bool (!t74.2.2)), (39, .pointer (some q29)), (40, .pointer (some q29)), (41, .pointer (some (q29.add 5))), (42, .slice (some p232) r25.parts.length cap38), (43, .int .i64 (t74.2.1 : Int)), (44, .pointer (some (p232.add (t74.2.1 * 1)))), (45, .slice (some p244) x229.length cap239), (46, .int .i64 (t74.1 : Int)), (47, .pointer (some (p244.add (t74.1 * 3)))), (48, .agg [.int .i64 x241.paragraph.anchor, .string (bs x241.paragraph.text), .bool x241.removed].toArray)]) ⟨rfl, rfl, rfl, rfl, rfl, rfl, rfl, rfl, rfl, rfl, rfl, rfl, rfl, rfl, rfl, rfl, rfl, rfl, rfl, rfl, rfl, rfl, rfl, rfl, rfl, rfl, rfl, rfl, rfl, rfl, rfl, rfl, rfl, rfl, rfl, rfl, rfl, rfl, rfl, rfl, rfl, rfl, rfl, rfl, tv⟩ ?_
     refine drG 6 mixed (by kernel_rfl) rfl (dt rfl (fb 0 U115 rfl rfl rfl rfl Z52 fin1) (dt rfl (fb 1 U52 rfl rfl rfl rfl Z9 fin1) (dt rfl (ld G9 rfl rfl (((sS 1 rfl hK251).drop 1).take 1) rfl fin1) (dt rfl (fb 2 U115 rfl rfl rfl rfl Z4 fin1) (dt rfl (ld G4 rfl rfl ((sS 1 rfl hK251).drop 2) rfl fin1) (dt rfl (a1 rfl fin1) (DF.nil fun K252 hF => (a1 rfl (a1 rfl (on (rt_ ?_)))))))))))
     cases hr243
     intro a w hS hA
     refine ret3 hA rfl rfl rfl rfl ?_
     exact ⟨rfl, hS.ext⟩

theorem w13 {M : Prop} {W : World} {H : Hp} (hH : H.le (hp W)) (hg : Gv M H) {cs_v_0 : List Value} (v_0 : Volume) (h_v_0 : (RVolume) H cs_v_0 v_0) {ad_errata : Option Addr} {cap_errata : Nat} {errata : List Erratum} (h_errata : Sl (Flat encErratum) 6 H ad_errata cap_errata errata) (anchor : Int) (style : Int) (to_4 : Int) {r : Bytes × Int} (hr : m13 v_0 errata anchor style to_4 = some r) : Calls Tryz.prog 13 [.agg cs_v_0.toArray, .slice ad_errata errata.length cap_errata, .int .i64 anchor, .int .u8 style, .int .i64 to_4].toArray W (RetS M W (.tuple [.string (bs r.1), .int .i64 r.2].toArray)) := by
 have hh_v_0 := h_v_0
 obtain ⟨ad1, cap2, rfl, hl3⟩ := h_v_0
 have := hl3.len
 have := h_errata.len
 unfold m13 at hr
 refine enterG (M := M) Tryz.func13 rfl Tryz.ntmps13 rfl hH ?_
 refine sq (rg (bI (cs := [.int .i64 v_0.number, .int .i64 v_0.bound, .int .i64 v_0.height, .int .i64 v_0.width, .slice ad1 v_0.parts.length cap2]) rfl rfl rfl fun q4 K5 hK6 => (a1 rfl (a1 rfl (on (sq (sq (rg (ldA G42 Z42 rfl rfl (sS 0 rfl hK6) rfl (m1 rfl ?_))))))))))
 obtain ⟨r7, hx8, hr9⟩ := bd_some hr
 refine clS C33 rfl rfl rfl rfl (fun w H hH le => w33 hH v_0 (RVolume.mono _ _ _ _ (le.at 1 rfl) hh_v_0) (h_errata.mono (Flat.mono _) (le.at 1 rfl)) hx8) (a1 rfl (on (sq (rg (m1 rfl (neI rfl rfl rfl (on ?_)))))))
 refine ci rfl (fun hc13 => ?_) (fun hc13 => ?_)
 ·have hr14 := if_p hc13 hr9
  refine sq (rg (m1 rfl (a1 rfl (a1 rfl (on (rt_ ?_))))))
  cases hr14
  intro a w hS hA
  refine ret2 hA rfl rfl rfl ?_
  exact ⟨rfl, hS.ext⟩
 ·have hr15 := if_n hc13 hr9
  refine sk (sq (sq ?_))
  obtain ⟨t25, hx26, hr27⟩ := bd_some hr15
  refine jn (fun a w => St M W H [K5, H] [] w ∧ Has [] 104 a [(1, .slice ad_errata errata.length cap_errata), (2, .int .i64 anchor), (3, .int .u8 style), (4, .int .i64 to_4), (5, .pointer (some q4)), (34, .bool t25)]) ?_ ?_
  ·refine rg (m1 rfl (gtI rfl rfl rfl (m1 rfl ?_)))
   by_cases hb28 : 2 < style
   ·have hr29 := if_p hb28 hx26
    refine gf' hb28 rfl (gf' hb28 rfl (gf' hb28 rfl (gU rfl rfl rfl (gU rfl rfl rfl (gU rfl rfl rfl (gf' hb28 rfl (pt hb28 rfl rfl (on ?_))))))))
    cases hr29
    exact cu ⟨rfl, rfl, rfl, rfl, rfl, rfl, tv⟩
   ·have hr30 := if_n hb28 hx26
    refine gt' hb28 rfl (m1 rfl (gt' hb28 rfl (eqI rfl rfl rfl (gt' hb28 rfl (m1 rfl ?_)))))
    by_cases hb31 : style = 2
    ·have hr32 := if_p hb31 hr30
     refine gt hb31 rfl (m1 rfl (gt hb31 rfl ?_))
     obtain ⟨r33, hx34, hr35⟩ := bd_some hr32
     refine clS C34 rfl rfl rfl rfl (fun w H hH le => w34 to_4 hx34) (gt hb31 rfl (nt rfl rfl (gt' hb28 rfl (pt hb31 rfl rfl (pf hb28 rfl rfl (on ?_))))))
     cases hr35
     exact cu ⟨rfl, rfl, rfl, rfl, rfl, rfl, tv⟩
    ·have hr36 := if_n hb31 hr30
     refine gf hb31 rfl (gf hb31 rfl (gf hb31 rfl (gt' hb28 rfl (pf hb31 rfl rfl (pf hb28 rfl rfl (on ?_))))))
     cases hr36
     exact cu ⟨rfl, rfl, rfl, rfl, rfl, rfl, tv⟩
  ·rintro a w ⟨hS, hA⟩
   refine TG.ap ?_ hS hA
   refine cb rfl (fun hc40 => ?_) (fun hc40 => ?_)
   ·have hr41 := if_p hc40 hr27
    refine sq (rg (a1 rfl (a1 rfl (on (rt_ ?_)))))
    cases hr41
    intro a w hS hA
    refine ret2 hA rfl rfl rfl ?_
    exact ⟨rfl, hS.ext⟩
   ·have hr42 := if_f hc40 hr27
    refine sk (sq (sq (rg (m1 rfl (eqI rfl rfl rfl (on ?_))))))
    refine ci rfl (fun hc60 => ?_) (fun hc60 => ?_)
    ·have hr61 := if_p hc60 hr42
     refine sq (sq (rg (ldA G42 Z42 rfl rfl (sS 0 rfl hK6) rfl (m1 rfl (m1 rfl (m1 rfl ?_))))))
     obtain ⟨r62, hx63, hr64⟩ := bd_some hr61
     refine clS C37 rfl rfl rfl rfl (fun w H hH le => w37 hH v_0 (RVolume.mono _ _ _ _ (le.at 1 rfl) hh_v_0) (h_errata.mono (Flat.mono _) (le.at 1 rfl)) anchor to_4 hx63) (m1 rfl (ex rfl rfl rfl (ex rfl rfl rfl (ex rfl rfl rfl (a1 rfl (a1 rfl (a1 rfl (on (sq (rg (m1 rfl ?_)))))))))))
     refine neI rfl rfl rfl (on ?_)
     refine ci rfl (fun hc68 => ?_) (fun hc68 => ?_)
     ·have hr69 := if_p hc68 hr64
      refine sq (rg (m1 rfl (a1 rfl (a1 rfl (on (rt_ ?_))))))
      cases hr69
      intro a w hS hA
      refine ret2 hA rfl rfl rfl ?_
      exact ⟨rfl, hS.ext⟩
     ·have hr70 := if_n hc68 hr64
      refine sk (sq (rg (m1 rfl (fi U3 rfl rfl rfl (fi U9 rfl rfl rfl (m1 rfl (fi U3 rfl rfl rfl (bS (cs := [.iface 3 (.int .i64 anchor), .iface 9 (.string (bs [64])), .iface 3 (.int .i64 to_4)]) T10.E171 rfl rfl rfl rfl fun q71 K72 hq73 hK74 => ?_))))))))
      have hl75 : Sl (Flat encAny) 1 K72 (some q71) 3 ([(.i anchor : Any), (.s [64] : Any), (.i to_4 : Any)] : List Any) := Sl.litR (css := [[.iface 3 (.int .i64 anchor)], [.iface 9 (.string (bs [64]))], [.iface 3 (.int .i64 to_4)]]) (l := ([(.i anchor : Any), (.s [64] : Any), (.i to_4 : Any)] : List Any)) ⟨⟨rfl, rfl, rfl⟩, ⟨rfl, rfl, rfl⟩, ⟨rfl, rfl, rfl⟩, tv⟩ hq73 hK74 rfl
      have := hl75.len
      obtain ⟨r76, hx77, hr78⟩ := bd_some hr70
      refine clS C38 rfl rfl rfl rfl (fun w H hH le => w38 hH (hg.mono (le.at 2 rfl)) (hl75.mono (Flat.mono _) (le.at 0 rfl)) hx77) (a1 rfl (a1 rfl (on (rt_ ?_))))
      cases hr78
      intro a w hS hA
      refine ret2 hA rfl rfl rfl ?_
      exact ⟨rfl, hS.ext⟩
    ·have hr79 := if_n hc60 hr42
     refine sk (sq (sq (rg (ldA G42 Z42 rfl rfl (sS 0 rfl hK6) rfl (m1 rfl ?_)))))
     obtain ⟨r80, hx81, hr82⟩ := bd_some hr79
     refine clK C39 rfl rfl rfl rfl (fun w H hH le => w39 hH v_0 (RVolume.mono _ _ _ _ (le.at 1 rfl) hh_v_0) (h_errata.mono (Flat.mono _) (le.at 1 rfl)) hx81) ?_
     rintro v_ K83 ⟨ad84, cap85, rfl, hl86⟩
     have := hl86.len
     refine lnL U121 rfl rfl (m1 rfl (on ?_))
     obtain ⟨e124, hl125, hr126⟩ := bd_some hr82
     refine jn (fun a w => ∃ t127, e124 = .inl t127 ∧ St M W H [K83, K5, H] [] w ∧ Has [] 104 a []) ?_ ?_
     ·refine bk ?_
      refine lp hl125 (fun s128 a w => St M W H [K83, K5, H] [] w ∧ Has [] 104 a [(2, .int .i64 anchor), (3, .int .u8 style), (5, .pointer (some q4)), (58, .slice ad84 r80.length cap85), (59, .int .i64 (r80.length : Int)), (60, .int .i64 (s128 : Int))]) ?_ ?_
      ·exact cu ⟨rfl, rfl, rfl, rfl, rfl, rfl, tv⟩
      ·rintro j s128 y131 hr129 hz130 a w ⟨hS, hA⟩
       refine TG.ap ?_ hS hA
       unfold m13_1 at hr129
       refine sq (rg (ltI rfl rfl rfl (on (sq ?_))))
       refine ci rfl (fun hc135 => ?_) (fun hc135 => ?_)
       ·have hr136 := if_p hc135 hr129
        refine sk (sq (bk (sq (rg ?_))))
        obtain ⟨x170, hx171, hr172⟩ := bd_some hr136
        obtain ⟨p173, rfl⟩ := hl86.adr hx171
        obtain ⟨cs174, hcs175, hq176, hr177⟩ := hl86.at hx171
        obtain rfl := hr177
        refine iaP U121 Z124 rfl rfl rfl rfl (lt_of hx171) (ldA G124 Z124 rfl rfl (sS 0 rfl hq176) rfl (va (cs := [.int .i64 x170.place.anchor, .int .i64 x170.place.column, .int .i64 x170.place.line, .int .i64 x170.place.lines, .int .i64 x170.day, .int .i64 x170.number]) Tryz.zeroValue124 Z124 rfl rfl rfl rfl rfl rfl rfl rfl fun q178 K179 hK180 => (on (bk (sq (rg (fb 0 U124 rfl rfl rfl rfl Z81 (fb 0 U81 rfl rfl rfl rfl Z3 (ld G3 rfl rfl ((sS 0 rfl hK180).take 1) rfl (m1 rfl (neI rfl rfl rfl ?_)))))))))))
        refine a1 rfl (on ?_)
        refine ci rfl (fun hc225 => ?_) (fun hc225 => ?_)
        ·have hr226 := if_p hc225 hr172
         refine sk (rg (adI rfl rfl rfl (by omega) (m1 rfl (on ?_))))
         cases hr226
         intro a w hS hA
         exact ⟨_, hz130, hS.selH [1, 2, 3] rfl, hA.cut ⟨rfl, rfl, rfl, rfl, rfl, rfl, tv⟩⟩
        ·have hr227 := if_n hc225 hr172
         refine sq (rg (m1 rfl (eqI rfl rfl rfl (a1 rfl (on ?_)))))
         refine ci rfl (fun hc247 => ?_) (fun hc247 => ?_)
         ·have hr248 := if_p hc247 hr227
          refine sq (rg (fi U9 rfl rfl rfl (fb 0 U42 rfl rfl rfl rfl Z3 (ld G3 rfl rfl ((sS 2 rfl hK6).take 1) rfl (fi U3 rfl rfl rfl (fi U9 rfl rfl rfl (fb 0 U124 rfl rfl rfl rfl Z81 (fb 1 U81 rfl rfl rfl rfl Z3 (ld G3 rfl rfl (((sS 0 rfl hK180).drop 1).take 1) rfl (fi U3 rfl rfl rfl (fi U9 rfl rfl rfl ?_)))))))))))
          refine fb 0 U124 rfl rfl rfl rfl Z81 (fb 2 U81 rfl rfl rfl rfl Z3 (ld G3 rfl rfl (((sS 0 rfl hK180).drop 2).take 1) rfl (fi U3 rfl rfl rfl (bS (cs := [.iface 9 (.string (bs [118, 111, 108, 46, 32])), .iface 3 (.int .i64 v_0.number), .iface 9 (.string (bs [44, 32, 99, 111, 108, 46, 32])), .iface 3 (.int .i64 x170.place.column), .iface 9 (.string (bs [44, 32, 108, 46, 32])), .iface 3 (.int .i64 x170.place.line)]) T10.E171 rfl rfl rfl rfl fun q249 K250 hq251 hK252 => ?_))))
          have hl253 : Sl (Flat encAny) 1 K250 (some q249) 6 ([(.s [118, 111, 108, 46, 32] : Any), (.i v_0.number : Any), (.s [44, 32, 99, 111, 108, 46, 32] : Any), (.i x170.place.column : Any), (.s [44, 32, 108, 46, 32] : Any), (.i x170.place.line : Any)] : List Any) := Sl.litR (css := [[.iface 9 (.string (bs [118, 111, 108, 46, 32]))], [.iface 3 (.int .i64 v_0.number)], [.iface 9 (.string (bs [44, 32, 99, 111, 108, 46, 32]))], [.iface 3 (.int .i64 x170.place.column)], [.iface 9 (.string (bs [44, 32, 108, 46, 32]))], [.iface 3 (.int .i64 x170.place.line)]]) (l := ([(.s [118, 111, 108, 46, 32] : Any), (.i v_0.number : Any), (.s [44, 32, 99, 111, 108, 46, 32] : Any), (.i x170.place.column : Any), (.s [44, 32, 108, 46, 32] : Any), (.i x170.place.line : Any)] : List Any)) ⟨⟨rfl, rfl, rfl⟩, ⟨rfl, rfl, rfl⟩, ⟨rfl, rfl, rfl⟩, ⟨rfl, rfl, rfl⟩, ⟨rfl, rfl, rfl⟩, ⟨rfl, rfl, rfl⟩, tv⟩ hq251 hK252 rfl
          have := hl253.len
          obtain ⟨r254, hx255, hr256⟩ := bd_some hr248
          refine clS C38 rfl rfl rfl rfl (fun w H hH le => w38 hH (hg.mono (le.at 4 rfl)) (hl253.mono (Flat.mono _) (le.at 0 rfl)) hx255) (a1 rfl (a1 rfl (on (rt_ ?_))))
          cases hr256
          obtain rfl := Fin.out hz130
          cases hr126
          intro a w hS hA
          refine ret2 hA rfl rfl rfl ?_
          exact ⟨rfl, hS.ext⟩
         ·have hr257 := if_n hc247 hr227
          refine sq (rg (fi U9 rfl rfl rfl (fb 0 U42 rfl rfl rfl rfl Z3 (ld G3 rfl rfl ((sS 2 rfl hK6).take 1) rfl (fi U3 rfl rfl rfl (fi U9 rfl rfl rfl (fb 4 U124 rfl rfl rfl rfl Z3 (ld G3 rfl rfl (((sS 0 rfl hK180).drop 4).take 1) rfl (fi U3 rfl rfl rfl (fi U9 rfl rfl rfl (fb 5 U124 rfl rfl rfl rfl Z3 ?_)))))))))))
          refine ld G3 rfl rfl ((sS 0 rfl hK180).drop 5) rfl (fi U3 rfl rfl rfl (bS (cs := [.iface 9 (.string (bs [118, 111, 108, 46, 32])), .iface 3 (.int .i64 v_0.number), .iface 9 (.string (bs [44, 32])), .iface 3 (.int .i64 x170.day), .iface 9 (.string (bs [44, 32, 112, 97, 114, 46, 32])), .iface 3 (.int .i64 x170.number)]) T10.E171 rfl rfl rfl rfl fun q258 K259 hq260 hK261 => ?_))
          have hl262 : Sl (Flat encAny) 1 K259 (some q258) 6 ([(.s [118, 111, 108, 46, 32] : Any), (.i v_0.number : Any), (.s [44, 32] : Any), (.i x170.day : Any), (.s [44, 32, 112, 97, 114, 46, 32] : Any), (.i x170.number : Any)] : List Any) := Sl.litR (css := [[.iface 9 (.string (bs [118, 111, 108, 46, 32]))], [.iface 3 (.int .i64 v_0.number)], [.iface 9 (.string (bs [44, 32]))], [.iface 3 (.int .i64 x170.day)], [.iface 9 (.string (bs [44, 32, 112, 97, 114, 46, 32]))], [.iface 3 (.int .i64 x170.number)]]) (l := ([(.s [118, 111, 108, 46, 32] : Any), (.i v_0.number : Any), (.s [44, 32] : Any), (.i x170.day : Any), (.s [44, 32, 112, 97, 114, 46, 32] : Any), (.i x170.number : Any)] : List Any)) ⟨⟨rfl, rfl, rfl⟩, ⟨rfl, rfl, rfl⟩, ⟨rfl, rfl, rfl⟩, ⟨rfl, rfl, rfl⟩, ⟨rfl, rfl, rfl⟩, ⟨rfl, rfl, rfl⟩, tv⟩ hq260 hK261 rfl
          have := hl262.len
          obtain ⟨r263, hx264, hr265⟩ := bd_some hr257
          refine clS C38 rfl rfl rfl rfl (fun w H hH le => w38 hH (hg.mono (le.at 4 rfl)) (hl262.mono (Flat.mono _) (le.at 0 rfl)) hx264) (a1 rfl (a1 rfl (on (rt_ ?_))))
          cases hr265
          obtain rfl := Fin.out hz130
          cases hr126
          intro a w hS hA
          refine ret2 hA rfl rfl rfl ?_
          exact ⟨rfl, hS.ext⟩
       ·have hr266 := if_n hc135 hr129
        refine xt rfl ?_
        cases hr266
        obtain rfl := Fin.out hz130
        intro a w hS hA
        exact ⟨_, rfl, hS, hA.cut tv⟩
     ·rintro a w ⟨t127, rfl, hS, hA⟩
      refine TG.ap ?_ hS hA
      refine sq (rg (a1 rfl (a1 rfl (on (rt_ ?_)))))
      cases hr126
      intro a w hS hA
      refine ret2 hA rfl rfl rfl ?_
      exact ⟨rfl, hS.ext⟩

theorem w14 {M : Prop} {W : World} {H : Hp} (hH : H.le (hp W)) {cs_r_0 : List Value} (r_0 : Report) (h_r_0 : (RReport) H cs_r_0 r_0) {r : Int} (hr : m14 r_0 = some r) : Calls Tryz.prog 14 [.agg cs_r_0.toArray].toArray W (RetS M W (.int .i64 r)) := by
 have hh_r_0 := h_r_0
 obtain ⟨ad1, cap2, ad4, cap5, rfl, hl3, hl6⟩ := h_r_0
 have := hl3.len
 have := hl6.len
 unfold m14 at hr
 refine enterG (M := M) Tryz.func14 rfl Tryz.ntmps14 rfl hH ?_
 refine sq (rg (bI (cs := [.slice ad1 r_0.words.length cap2, .slice ad4 r_0.orders.length cap5, .int .i64 r_0.columns]) rfl rfl rfl fun q7 K8 hK9 => (a1 rfl (on (sq (sq ?_))))))
 obtain ⟨t13, hx14, hr15⟩ := bd_some hr
 refine jn (fun a w => St M W H [K8, H] [] w ∧ Has [] 120 a [(1, .pointer (some q7)), (18, .bool t13)]) ?_ ?_
 ·refine rg (fb 0 U48 rfl rfl rfl rfl Z46 (ld G46 rfl rfl ((sS 0 rfl hK9).take 1) rfl (lnL U46 rfl rfl (gtI rfl rfl rfl (m1 rfl ?_)))))
  by_cases hb16 : 60 < (r_0.words.length : Int)
  ·have hr17 := if_p hb16 hx14
   refine gf' hb16 rfl (gf' hb16 rfl (gf' hb16 rfl (gf' hb16 rfl (pt hb16 rfl rfl (on ?_)))))
   cases hr17
   exact cu ⟨rfl, rfl, tv⟩
  ·have hr18 := if_n hb16 hx14
   refine gt' hb16 rfl (fb 1 U48 rfl rfl rfl rfl Z27 (gt' hb16 rfl (ld G27 rfl rfl (((sS 0 rfl hK9).drop 1).take 1) rfl (gt' hb16 rfl (lnL U27 rfl rfl (gt' hb16 rfl (gtI rfl rfl rfl (pf hb16 rfl rfl (on ?_)))))))))
   cases hr18
   exact cu ⟨rfl, rfl, tv⟩
 ·rintro a w ⟨hS, hA⟩
  refine TG.ap ?_ hS hA
  refine cb rfl (fun hc22 => ?_) (fun hc22 => ?_)
  ·have hr23 := if_p hc22 hr15
   refine sq (rg (a1 rfl (on (rt_ ?_))))
   cases hr23
   intro a w hS hA
   refine ret1 hA rfl rfl ?_
   exact ⟨rfl, hS.ext⟩
  ·have hr24 := if_f hc22 hr15
   refine sk (sq (sq (rg (a1 rfl (on ?_)))))
   obtain ⟨e44, hl45, hr46⟩ := bd_some hr24
   refine jn (fun a w => ∃ t47, e44 = .inl t47 ∧ St M W H [K8, H] [] w ∧ Has [] 120 a [(1, .pointer (some q7))]) ?_ ?_
   ·refine bk ?_
    refine lp hl45 (fun s48 a w => St M W H [K8, H] [] w ∧ Has [] 120 a [(1, .pointer (some q7)), (3, .int .i64 (s48 : Int))]) ?_ ?_
    ·exact cu ⟨rfl, rfl, tv⟩
    ·rintro j s48 y51 hr49 hz50 a w ⟨hS, hA⟩
     refine TG.ap ?_ hS hA
     unfold m14_1 at hr49
     refine sq (sq (rg (m1 rfl (fb 0 U48 rfl rfl rfl rfl Z46 (ld G46 rfl rfl ((sS 0 rfl hK9).take 1) rfl (lnL U46 rfl rfl (ltI rfl rfl rfl (on ?_))))))))
     refine ci rfl (fun hc55 => ?_) (fun hc55 => ?_)
     ·have hr56 := if_p hc55 hr49
      refine sk (sq (bk (sq (rg (fb 0 U48 rfl rfl rfl rfl Z46 (ld G46 rfl rfl ((sS 0 rfl hK9).take 1) rfl (m1 rfl ?_)))))))
      obtain ⟨x72, hx73, hr74⟩ := bd_some hr56
      obtain ⟨p75, rfl⟩ := hl3.adr hx73
      obtain ⟨cs76, hcs77, hq78, hr79⟩ := hl3.at hx73
      have hr80 := hr79
      obtain ⟨ad81, cap82, rfl, hl83⟩ := hr79
      have := hl83.len
      refine iaP U46 Z54 rfl rfl rfl rfl (lt_of hx73) (fb 1 U54 rfl rfl rfl rfl Z28 (ld G28 rfl rfl ((sS 1 rfl hq78).drop 1) rfl (lnL U28 rfl rfl (gtI rfl rfl rfl (on ?_)))))
      refine ci rfl (fun hc87 => ?_) (fun hc87 => ?_)
      ·have hr88 := if_p hc87 hr74
       refine sq (rg (a1 rfl (on (rt_ ?_))))
       cases hr88
       obtain rfl := Fin.out hz50
       cases hr46
       intro a w hS hA
       refine ret1 hA rfl rfl ?_
       exact ⟨rfl, hS.ext⟩
      ·have hr89 := if_n hc87 hr74
       refine sk (rg (m1 rfl (adI rfl rfl rfl (by omega) (a1 rfl (on ?_)))))
       cases hr89
       intro a w hS hA
       exact ⟨_, hz50, hS, hA.cut ⟨rfl, rfl, tv⟩⟩
     ·have hr90 := if_n hc55 hr49
      refine xt rfl ?_
      cases hr90
      obtain rfl := Fin.out hz50
      intro a w hS hA
      exact ⟨_, rfl, hS, hA.cut ⟨rfl, tv⟩⟩
   ·rintro a w ⟨t47, rfl, hS, hA⟩
    refine TG.ap ?_ hS hA
    refine sq (sq (rg (a1 rfl (on ?_))))
    obtain ⟨e140, hl141, hr142⟩ := bd_some hr46
    refine jn (fun a w => ∃ t143, e140 = .inl t143 ∧ St M W H [K8, H] [] w ∧ Has [] 120 a [(1, .pointer (some q7))]) ?_ ?_
    ·refine bk ?_
     refine lp hl141 (fun s144 a w => St M W H [K8, H] [] w ∧ Has [] 120 a [(1, .pointer (some q7)), (4, .int .i64 (s144 : Int))]) ?_ ?_
     ·exact cu ⟨rfl, rfl, tv⟩
     ·rintro j s144 y147 hr145 hz146 a w ⟨hS, hA⟩
      refine TG.ap ?_ hS hA
      unfold m14_2 at hr145
      refine sq (sq (rg (m1 rfl (fb 0 U48 rfl rfl rfl rfl Z46 (ld G46 rfl rfl ((sS 0 rfl hK9).take 1) rfl (lnL U46 rfl rfl (ltI rfl rfl rfl (on ?_))))))))
      refine ci rfl (fun hc151 => ?_) (fun hc151 => ?_)
      ·have hr152 := if_p hc151 hr145
       refine sk (sq (bk (sq (rg (fb 0 U48 rfl rfl rfl rfl Z46 (ld G46 rfl rfl ((sS 0 rfl hK9).take 1) rfl (m1 rfl ?_)))))))
       obtain ⟨x198, hx199, hr200⟩ := bd_some hr152
       obtain ⟨p201, rfl⟩ := hl3.adr hx199
       obtain ⟨cs202, hcs203, hq204, hr205⟩ := hl3.at hx199
       have hr206 := hr205
       obtain ⟨ad207, cap208, rfl, hl209⟩ := hr205
       have := hl209.len
       refine iaP U46 Z54 rfl rfl rfl rfl (lt_of hx199) (ldA G54 Z54 rfl rfl (sS 1 rfl hq204) rfl (va (cs := [.string (bs x198.text), .slice ad207 x198.heads.length cap208]) Tryz.zeroValue54 Z54 rfl rfl rfl rfl rfl rfl rfl rfl fun q210 K211 hK212 => (on (sq (sq ?_)))))
       obtain ⟨t222, hx223, hr224⟩ := bd_some hr200
       refine jn (fun a w => St M W H [K211, K8, H] [] w ∧ Has [] 120 a [(1, .pointer (some q7)), (4, .int .i64 (s144 : Int)), (5, .pointer (some q210)), (56, .bool t222)]) ?_ ?_
       ·refine rg (fb 0 U54 rfl rfl rfl rfl Z9 (ld G9 rfl rfl ((sS 0 rfl hK212).take 1) rfl (lnS U9 rfl rfl ?_)))
        obtain ⟨r225, hx226, hr227⟩ := bd_some hx223
        refine clS C31 rfl rfl rfl rfl (fun w H hH le => w31 (x198.text.length : Int) 1 20 hx226) (nt rfl rfl (m1 rfl ?_))
        rcases Bool.eq_false_or_eq_true (r225) with hb228 | hb228
        ·have hr229 := if_p hb228 hr227
         refine gN rfl rfl (congrArg not (hb228)) (fb 1 U54 rfl rfl rfl rfl Z28 (gN rfl rfl (congrArg not (hb228)) (ld G28 rfl rfl ((sS 0 rfl hK212).drop 1) rfl (gN rfl rfl (congrArg not (hb228)) ?_))))
         obtain ⟨r230, hx231, hr232⟩ := bd_some hr229
         refine clS C32 rfl rfl rfl rfl (fun w H hH le => w32 hH (hl209.mono (Flat.mono _) (le.at 2 rfl)) 99 hx231) (gN rfl rfl (congrArg not (hb228)) (nt rfl rfl (pF rfl rfl (congrArg not (hb228)) rfl (on ?_))))
         cases hr232
         exact cu ⟨rfl, rfl, rfl, rfl, tv⟩
        ·have hr233 := if_f hb228 hr227
         refine gF rfl rfl (congrArg not (hb228)) rfl (gF rfl rfl (congrArg not (hb228)) rfl (gF rfl rfl (congrArg not (hb228)) rfl (gF rfl rfl (congrArg not (hb228)) rfl (pT rfl rfl (congrArg not (hb228)) rfl (on ?_)))))
         cases hr233
         exact cu ⟨rfl, rfl, rfl, rfl, tv⟩
       ·rintro a w ⟨hS, hA⟩
        refine TG.ap ?_ hS hA
        refine cb rfl (fun hc237 => ?_) (fun hc237 => ?_)
        ·have hr238 := if_p hc237 hr224
         refine sq (rg (a1 rfl (on (rt_ ?_))))
         cases hr238
         obtain rfl := Fin.out hz146
         cases hr142
         intro a w hS hA
         refine ret1 hA rfl rfl ?_
         exact ⟨rfl, hS.ext⟩
        ·have hr239 := if_f hc237 hr224
         refine sk (sq (rg (a1 rfl (on ?_))))
         obtain ⟨e256, hl257, hr258⟩ := bd_some hr239
         refine jn (fun a w => ∃ t259, e256 = .inl t259 ∧ St M W H [K211, K8, H] [] w ∧ Has [] 120 a [(1, .pointer (some q7)), (4, .int .i64 (s144 : Int))]) ?_ ?_
         ·refine bk ?_
          refine lp hl257 (fun s260 a w => St M W H [K211, K8, H] [] w ∧ Has [] 120 a [(1, .pointer (some q7)), (4, .int .i64 (s144 : Int)), (5, .pointer (some q210)), (6, .int .i64 (s260 : Int))]) ?_ ?_
          ·exact cu ⟨rfl, rfl, rfl, rfl, tv⟩
          ·rintro j s260 y263 hr261 hz262 a w ⟨hS, hA⟩
           refine TG.ap ?_ hS hA
           unfold m14_3 at hr261
           refine sq (sq (rg (m1 rfl (fb 0 U54 rfl rfl rfl rfl Z9 (ld G9 rfl rfl ((sS 0 rfl hK212).take 1) rfl (lnS U9 rfl rfl (ltI rfl rfl rfl (on ?_))))))))
           refine ci rfl (fun hc267 => ?_) (fun hc267 => ?_)
           ·have hr268 := if_p hc267 hr261
            refine sk (sq (bk (sq ?_)))
            obtain ⟨t285, hx286, hr287⟩ := bd_some hr268
            refine jn (fun a w => St M W H [K211, K8, H] [] w ∧ Has [] 120 a [(1, .pointer (some q7)), (4, .int .i64 (s144 : Int)), (5, .pointer (some q210)), (6, .int .i64 (s260 : Int)), (75, .bool t285)]) ?_ ?_
            ·refine rg (fb 0 U54 rfl rfl rfl rfl Z9 (ld G9 rfl rfl ((sS 0 rfl hK212).take 1) rfl (m1 rfl ?_)))
             obtain ⟨x288, hx289, hr290⟩ := bd_some hx286
             have := UInt8.toNat_lt x288
             refine ixS U9 rfl rfl rfl rfl hx289 (ltI rfl rfl rfl (m1 rfl ?_))
             by_cases hb291 : (x288.toNat : Int) < 33
             ·have hr292 := if_p hb291 hr290
              refine gf' hb291 rfl (gf' hb291 rfl (gf' hb291 rfl (gf' hb291 rfl (gf' hb291 rfl (pt hb291 rfl rfl (on ?_))))))
              cases hr292
              exact cu ⟨rfl, rfl, rfl, rfl, rfl, tv⟩
             ·have hr293 := if_n hb291 hr290
              refine gt' hb291 rfl (fb 0 U54 rfl rfl rfl rfl Z9 (gt' hb291 rfl (ld G9 rfl rfl ((sS 0 rfl hK212).take 1) rfl (gt' hb291 rfl (m1 rfl (gt' hb291 rfl (ixS U9 rfl rfl rfl rfl hx289 (gt' hb291 rfl (gtI rfl rfl rfl (pf hb291 rfl rfl (on ?_)))))))))))
              cases hr293
              exact cu ⟨rfl, rfl, rfl, rfl, rfl, tv⟩
            ·rintro a w ⟨hS, hA⟩
             refine TG.ap ?_ hS hA
             refine cb rfl (fun hc297 => ?_) (fun hc297 => ?_)
             ·have hr298 := if_p hc297 hr287
              refine sq (rg (a1 rfl (on (rt_ ?_))))
              cases hr298
              obtain rfl := Fin.out hz262
              cases hr258
              obtain rfl := Fin.out hz146
              cases hr142
              intro a w hS hA
              refine ret1 hA rfl rfl ?_
              exact ⟨rfl, hS.ext⟩
             ·have hr299 := if_f hc297 hr287
              refine sk (rg (m1 rfl ?_))
              obtain ⟨hk300, hr301⟩ := chk_some hr299
              refine adI rfl rfl rfl hk300 (a1 rfl (on ?_))
              cases hr301
              intro a w hS hA
              exact ⟨_, hz262, hS, hA.cut ⟨rfl, rfl, rfl, rfl, tv⟩⟩
           ·have hr302 := if_n hc267 hr261
            refine xt rfl ?_
            cases hr302
            obtain rfl := Fin.out hz262
            intro a w hS hA
            exact ⟨_, rfl, hS, hA.cut ⟨rfl, rfl, tv⟩⟩
         ·rintro a w ⟨t259, rfl, hS, hA⟩
          refine TG.ap ?_ hS hA
          refine rg (m1 rfl (adI rfl rfl rfl (by omega) (a1 rfl (on ?_))))
          cases hr258
          intro a w hS hA
          exact ⟨_, hz146, hS.selH [1, 2] rfl, hA.cut ⟨rfl, rfl, tv⟩⟩
      ·have hr303 := if_n hc151 hr145
       refine xt rfl ?_
       cases hr303
       obtain rfl := Fin.out hz146
       intro a w hS hA
       exact ⟨_, rfl, hS, hA.cut ⟨rfl, tv⟩⟩
    ·rintro a w ⟨t143, rfl, hS, hA⟩
     refine TG.ap ?_ hS hA
     refine sq (sq (rg (a1 rfl (on ?_))))
     obtain ⟨e346, hl347, hr348⟩ := bd_some hr142
     refine jn (fun a w => ∃ t349, e346 = .inl t349 ∧ St M W H [K8, H] [] w ∧ Has [] 120 a [(1, .pointer (some q7))]) ?_ ?_
     ·refine bk ?_
      refine lp hl347 (fun s350 a w => St M W H [K8, H] [] w ∧ Has [] 120 a [(1, .pointer (some q7)), (7, .int .i64 (s350 : Int))]) ?_ ?_
      ·exact cu ⟨rfl, rfl, tv⟩
      ·rintro j s350 y353 hr351 hz352 a w ⟨hS, hA⟩
       refine TG.ap ?_ hS hA
       unfold m14_4 at hr351
       refine sq (sq (rg (m1 rfl (fb 1 U48 rfl rfl rfl rfl Z27 (ld G27 rfl rfl (((sS 0 rfl hK9).drop 1).take 1) rfl (lnL U27 rfl rfl (ltI rfl rfl rfl (on ?_))))))))
       refine ci rfl (fun hc357 => ?_) (fun hc357 => ?_)
       ·have hr358 := if_p hc357 hr351
        refine sk (sq (bk (sq (rg (fb 1 U48 rfl rfl rfl rfl Z27 (ld G27 rfl rfl (((sS 0 rfl hK9).drop 1).take 1) rfl (m1 rfl ?_)))))))
        obtain ⟨x397, hx398, hr399⟩ := bd_some hr358
        obtain ⟨p400, rfl⟩ := hl6.adr hx398
        obtain ⟨cs401, hcs402, hq403, hr404⟩ := hl6.at hx398
        obtain rfl := hr404
        refine iaP U27 Z126 rfl rfl rfl rfl (lt_of hx398) (ldA G126 Z126 rfl rfl (sS 1 rfl hq403) rfl (va (cs := [.int .i64 x397.from_, .int .i64 x397.to_, .int .i64 x397.kind, .int .i64 x397.until_]) Tryz.zeroValue126 Z126 rfl rfl rfl rfl rfl rfl rfl rfl fun q405 K406 hK407 => (on (sq ?_))))
        obtain ⟨t431, hx432, hr433⟩ := bd_some hr399
        refine jn (fun a w => St M W H [K406, K8, H] [] w ∧ Has [] 120 a [(1, .pointer (some q7)), (7, .int .i64 (s350 : Int)), (115, .bool t431)]) ?_ ?_
        ·refine rg (fb 1 U126 rfl rfl rfl rfl Z3 (ld G3 rfl rfl (((sS 0 rfl hK407).drop 1).take 1) rfl (fb 0 U48 rfl rfl rfl rfl Z46 (ld G46 rfl rfl ((sS 1 rfl hK9).take 1) rfl (lnL U46 rfl rfl ?_)))))
         obtain ⟨r434, hx435, hr436⟩ := bd_some hx432
         refine clS C31 rfl rfl rfl rfl (fun w H hH le => w31 x397.to_ 1 (r_0.words.length : Int) hx435) (nt rfl rfl (m1 rfl ?_))
         rcases Bool.eq_false_or_eq_true (r434) with hb437 | hb437
         ·have hr438 := if_p hb437 hr436
          refine gN rfl rfl (congrArg not (hb437)) (fb 0 U126 rfl rfl rfl rfl Z3 (gN rfl rfl (congrArg not (hb437)) (ld G3 rfl rfl ((sS 0 rfl hK407).take 1) rfl (gN rfl rfl (congrArg not (hb437)) (fb 1 U126 rfl rfl rfl rfl Z3 (gN rfl rfl (congrArg not (hb437)) (ld G3 rfl rfl (((sS 0 rfl hK407).drop 1).take 1) rfl (gN rfl rfl (congrArg not (hb437)) ?_))))))))
          obtain ⟨hk439, hr440⟩ := chk_some hr438
          refine sbI rfl rfl rfl hk439 (gN rfl rfl (congrArg not (hb437)) ?_)
          obtain ⟨r441, hx442, hr443⟩ := bd_some hr440
          refine clS C31 rfl rfl rfl rfl (fun w H hH le => w31 x397.from_ 0 (x397.to_ - 1) hx442) (gN rfl rfl (congrArg not (hb437)) (nt rfl rfl (pF rfl rfl (congrArg not (hb437)) rfl (m1 rfl ?_))))
          rcases Bool.eq_false_or_eq_true (r441) with hb444 | hb444
          ·have hr445 := if_p hb444 hr443
           refine gN rfl rfl (congrArg not (hb444)) (fb 2 U126 rfl rfl rfl rfl Z3 (gN rfl rfl (congrArg not (hb444)) (ld G3 rfl rfl (((sS 0 rfl hK407).drop 2).take 1) rfl (gN rfl rfl (congrArg not (hb444)) ?_))))
           obtain ⟨r446, hx447, hr448⟩ := bd_some hr445
           refine clS C31 rfl rfl rfl rfl (fun w H hH le => w31 x397.kind 0 7 hx447) (gN rfl rfl (congrArg not (hb444)) (nt rfl rfl (pF rfl rfl (congrArg not (hb444)) rfl (m1 rfl ?_))))
           rcases Bool.eq_false_or_eq_true (r446) with hb449 | hb449
           ·have hr450 := if_p hb449 hr448
            refine gN rfl rfl (congrArg not (hb449)) (fb 3 U126 rfl rfl rfl rfl Z3 (gN rfl rfl (congrArg not (hb449)) (ld G3 rfl rfl ((sS 0 rfl hK407).drop 3) rfl (gN rfl rfl (congrArg not (hb449)) ?_))))
            obtain ⟨r451, hx452, hr453⟩ := bd_some hr450
            refine clS C31 rfl rfl rfl rfl (fun w H hH le => w31 x397.until_ 0 9999 hx452) (gN rfl rfl (congrArg not (hb449)) (nt rfl rfl (pF rfl rfl (congrArg not (hb449)) rfl (on ?_))))
            cases hr453
            exact cu ⟨rfl, rfl, rfl, tv⟩
           ·have hr454 := if_f hb449 hr448
            refine gF rfl rfl (congrArg not (hb449)) rfl (gF rfl rfl (congrArg not (hb449)) rfl (gF rfl rfl (congrArg not (hb449)) rfl (gF rfl rfl (congrArg not (hb449)) rfl (pT rfl rfl (congrArg not (hb449)) rfl (on ?_)))))
            cases hr454
            exact cu ⟨rfl, rfl, rfl, tv⟩
          ·have hr455 := if_f hb444 hr443
           refine gF rfl rfl (congrArg not (hb444)) rfl (gF rfl rfl (congrArg not (hb444)) rfl (gF rfl rfl (congrArg not (hb444)) rfl (gF rfl rfl (congrArg not (hb444)) rfl (pT rfl rfl (congrArg not (hb444)) rfl (m1 rfl (gF rfl rfl rfl rfl (gF rfl rfl rfl rfl (gF rfl rfl rfl rfl (gF rfl rfl rfl rfl (pT rfl rfl rfl rfl (on ?_)))))))))))
           cases hr455
           exact cu ⟨rfl, rfl, rfl, tv⟩
         ·have hr456 := if_f hb437 hr436
          refine gF rfl rfl (congrArg not (hb437)) rfl (gF rfl rfl (congrArg not (hb437)) rfl (gF rfl rfl (congrArg not (hb437)) rfl (gF rfl rfl (congrArg not (hb437)) rfl (gF rfl rfl (congrArg not (hb437)) rfl (gF rfl rfl (congrArg not (hb437)) rfl (gF rfl rfl (congrArg not (hb437)) rfl (pT rfl rfl (congrArg not (hb437)) rfl (m1 rfl (gF rfl rfl rfl rfl (gF rfl rfl rfl rfl (gF rfl rfl rfl rfl ?_)))))))))))
          refine gF rfl rfl rfl rfl (pT rfl rfl rfl rfl (m1 rfl (gF rfl rfl rfl rfl (gF rfl rfl rfl rfl (gF rfl rfl rfl rfl (gF rfl rfl rfl rfl (pT rfl rfl rfl rfl (on ?_))))))))
          cases hr456
          exact cu ⟨rfl, rfl, rfl, tv⟩
        ·rintro a w ⟨hS, hA⟩
         refine TG.ap ?_ hS hA
         refine cb rfl (fun hc460 => ?_) (fun hc460 => ?_)
         ·have hr461 := if_p hc460 hr433
          refine sq (rg (a1 rfl (on (rt_ ?_))))
          cases hr461
          obtain rfl := Fin.out hz352
          cases hr348
          intro a w hS hA
          refine ret1 hA rfl rfl ?_
          exact ⟨rfl, hS.ext⟩
         ·have hr462 := if_f hc460 hr433
          refine sk (rg (m1 rfl (adI rfl rfl rfl (by omega) (a1 rfl (on ?_)))))
          cases hr462
          intro a w hS hA
          exact ⟨_, hz352, hS.selH [1, 2] rfl, hA.cut ⟨rfl, rfl, tv⟩⟩
       ·have hr463 := if_n hc357 hr351
        refine xt rfl ?_
        cases hr463
        obtain rfl := Fin.out hz352
        intro a w hS hA
        exact ⟨_, rfl, hS, hA.cut ⟨rfl, tv⟩⟩
     ·rintro a w ⟨t349, rfl, hS, hA⟩
      refine TG.ap ?_ hS hA
      refine sq (sq (rg (fb 2 U48 rfl rfl rfl rfl Z3 (ld G3 rfl rfl ((sS 0 rfl hK9).drop 2) rfl ?_))))
      obtain ⟨r464, hx465, hr466⟩ := bd_some hr348
      refine clS C31 rfl rfl rfl rfl (fun w H hH le => w31 r_0.columns 1 20 hx465) (nt rfl rfl (on ?_))
      refine cb rfl (fun hc470 => ?_) (fun hc470 => ?_)
      ·replace hc470 := nbt hc470
       have hr471 := if_f hc470 hr466
       refine sq (rg (a1 rfl (on (rt_ ?_))))
       cases hr471
       intro a w hS hA
       refine ret1 hA rfl rfl ?_
       exact ⟨rfl, hS.ext⟩
      ·replace hc470 := nbf hc470
       have hr472 := if_p hc470 hr466
       refine sk (sq (rg (a1 rfl (on (rt_ ?_)))))
       cases hr472
       intro a w hS hA
       refine ret1 hA rfl rfl ?_
       exact ⟨rfl, hS.ext⟩

theorem w42 {M : Prop} {W : World} {H : Hp} (hH : H.le (hp W)) {ad_l_0 : Option Addr} {cap_l_0 : Nat} {l_0 : List Int} (h_l_0 : Sl (Flat (encI .i64)) 1 H ad_l_0 cap_l_0 l_0) {r : List Int} (hr : m42 l_0 = some r) : Calls Tryz.prog 42 [.slice ad_l_0 l_0.length cap_l_0].toArray W (RetK M H W (fun v K => ∃ (ad0 : Option Addr) (cap0 : Nat), v = .slice ad0 r.length cap0 ∧ Sl (Flat (encI .i64)) 1 K ad0 cap0 r)) := by
 have := h_l_0.len
 unfold m42 at hr
 refine enterG (M := M) Tryz.func42 rfl Tryz.ntmps42 rfl hH ?_
 refine sq (rg (a1 rfl (on (sq (rg (bSL 1 (encI .i64) ([] : List Int) (cs := []) T10.E28 rfl rfl rfl rfl rfl rfl fun b1 => (m1 rfl ?_)))))))
 obtain ⟨hk2, hr3⟩ := chk_some hr
 have := lenA ([] : List Int) l_0
 refine apS 1 (enc := encI .i64) (l := ([] : List Int)) (m := l_0) T10.E28 rfl rfl rfl rfl rfl rfl h_l_0 0 rfl (fun _ => rfl) (fun _ => rfl) rfl hk2 fun ad4 cap5 => (a1 rfl (on (rt_ ?_)))
 cases hr3
 intro a w hS hA
 refine ret1 hA rfl rfl ?_
 exact ⟨⟨_, _, rfl, (hS.listOut 1 rfl (fun _ => rfl))⟩, hS.ext⟩

theorem w16 {M : Prop} {W : World} {H : Hp} (hH : H.le (hp W)) {cs_r_0 : List Value} (r_0 : Report) (h_r_0 : (RReport) H cs_r_0 r_0) {r : Report} (hr : m16 r_0 = some r) : Calls Tryz.prog 16 [.agg cs_r_0.toArray].toArray W (RetK M H W (fun v K => ∃ (cs0 : List Value), v = .agg cs0.toArray ∧ (RReport) K cs0 r)) := by
 have hh_r_0 := h_r_0
 obtain ⟨ad1, cap2, ad4, cap5, rfl, hl3, hl6⟩ := h_r_0
 have := hl3.len
 have := hl6.len
 unfold m16 at hr
 refine enterG (M := M) Tryz.func16 rfl Tryz.ntmps16 rfl hH ?_
 refine sq (rg (bI (cs := [.slice ad1 r_0.words.length cap2, .slice ad4 r_0.orders.length cap5, .int .i64 r_0.columns]) rfl rfl rfl fun q7 K8 hK9 => (al 1 (cs := [.slice none 0 0, .slice none 0 0, .int .i64 0]) Tryz.zeroValue62 rfl rfl fun b10 => (on (sq (rg (fb 2 U48 rfl rfl rfl rfl Z3 (ld G3 rfl rfl ((sS 0 rfl hK9).drop 2) rfl (bu (cs := [.slice none 0 0, .slice none 0 0, .int .i64 r_0.columns]) T10.B62 rfl rfl rfl (al 2 (cs := [.slice none 0 0, .slice none 0 0, .int .i64 0]) Tryz.zeroValue62 rfl rfl fun b11 => (sto 2 (cs := [.slice none 0 0, .slice none 0 0, .int .i64 r_0.columns]) Z62 rfl rfl rfl rfl rfl rfl rfl ?_)))))))))))
 refine on (sq (sq (rg (a1 rfl (on (TG.nilRow 4 137 2 ?_))))))
 have hR59 : Rows (RWord) 2 H [] ([] : List Word) := tv
 refine TG.as 4 (z := Own.rows none 0 137 2 [] ([] : List Word)) rfl rfl ?_
 obtain ⟨e167, hl168, hr169⟩ := bd_some hr
 refine jn (fun a w => ∃ (ad170 : Option Addr) (cap171 : Nat) (css172 : List (List Value)) (K173 : Hp), St M W H [K173, K8, H] [(4, Own.rows ad170 cap171 137 2 css172 e167), (2, cel b11 62 [.slice ad170 e167.length cap171, .slice none 0 0, .int .i64 r_0.columns]), (1, cel b10 62 [.slice none 0 0, .slice none 0 0, .int .i64 0])] w ∧ Has [] 63 a [(1, .pointer (some q7)), (2, .pointer (some (⟨b10, 0, none⟩))), (3, .pointer (some (⟨b11, 0, none⟩)))] ∧ Rows (RWord) 2 K173 css172 e167) ?_ ?_
 ·refine bk ?_
  refine lp hl168 (fun s175 a w => ∃ (ad176 : Option Addr) (cap177 : Nat) (css178 : List (List Value)) (K179 : Hp), St M W H [K179, K8, H] [(4, Own.rows ad176 cap177 137 2 css178 s175.2), (2, cel b11 62 [.slice ad176 s175.2.length cap177, .slice none 0 0, .int .i64 r_0.columns]), (1, cel b10 62 [.slice none 0 0, .slice none 0 0, .int .i64 0])] w ∧ Has [] 63 a [(1, .pointer (some q7)), (2, .pointer (some (⟨b10, 0, none⟩))), (3, .pointer (some (⟨b11, 0, none⟩))), (4, .int .i64 (s175.1 : Int))] ∧ Rows (RWord) 2 K179 css178 s175.2) ?_ ?_
  ·intro a w hS hA
   exact ⟨none, 0, [], H, hS.selH [1, 0, 1] rfl, hA.cut ⟨rfl, rfl, rfl, rfl, tv⟩, hR59⟩
  ·rintro j s175 y183 hr181 hz182 a w ⟨ad176, cap177, css178, K179, hS, hA, hR180⟩
   refine TG.ap ?_ hS hA
   unfold m16_1 at hr181
   refine sq (sq (rg (m1 rfl (fb 0 U48 rfl rfl rfl rfl Z46 (ld G46 rfl rfl ((sS 1 rfl hK9).take 1) rfl (lnL U46 rfl rfl (ltI rfl rfl rfl (on ?_))))))))
   refine ci rfl (fun hc187 => ?_) (fun hc187 => ?_)
   ·have hr188 := if_p hc187 hr181
    refine sk (sq (bk ?_))
    obtain ⟨x231, hx232, hr233⟩ := bd_some hr188
    obtain ⟨p234, rfl⟩ := hl3.adr hx232
    obtain ⟨cs235, hcs236, hq237, hr238⟩ := hl3.at hx232
    have hr239 := hr238
    obtain ⟨ad240, cap241, rfl, hl242⟩ := hr238
    have := hl242.len
    obtain ⟨r243, hx244, hr245⟩ := bd_some hr233
    refine drG 17 mixed (by kernel_rfl) rfl (dt rfl (fb 0 U62 rfl rfl rfl rfl Z59 fin1) (dt rfl (ld G59 rfl rfl ((sO 2 rfl).take 1) rfl fin1) (dt rfl (fb 0 U48 rfl rfl rfl rfl Z46 fin1) (dt rfl (ld G46 rfl rfl ((sS 2 rfl hK9).take 1) rfl fin1) (dt rfl (m1 rfl fin1) (dt rfl (iaP U46 Z54 rfl rfl rfl rfl (lt_of hx232) fin1) (dt rfl (fb 0 U54 rfl rfl rfl rfl Z9 fin1) (dt rfl (ld G9 rfl rfl ((sS 3 rfl hq237).take 1) rfl fin1) (dt rfl (fb 0 U48 rfl rfl rfl rfl Z46 fin1) (dt rfl (ld G46 rfl rfl ((sS 2 rfl hK9).take 1) rfl fin1) (dt rfl (m1 rfl fin1) ?_)))))))))))
    refine dt rfl (iaP U46 Z54 rfl rfl rfl rfl (lt_of hx232) fin1) (dt rfl (fb 1 U54 rfl rfl rfl rfl Z28 fin1) (dt rfl (ld G28 rfl rfl ((sS 3 rfl hq237).drop 1) rfl fin1) ?_))
    refine DF.und (α := Option Addr × Nat) (none, 0) (fun q => .slice q.1 r243.length q.2) (fun (q : Option Addr × Nat) K => Sl (Flat (encI .i64)) 1 K q.1 q.2 r243) (fun _ _ _ h x => x.mono (Flat.mono _) h) (by kernel_rfl) rfl (fun a w K hS hA hF => TG.pa hS hA (clK C42 rfl rfl rfl rfl (fun w H hH le => w42 hH (hl242.mono (Flat.mono _) (le.at 3 rfl)) hx244) (by
      rintro v_ K246 ⟨ad247, cap248, rfl, hl249⟩
      exact finU (f := fun q => .slice q.1 r243.length q.2) (G := (fun (q : Option Addr × Nat) K => Sl (Flat (encI .i64)) 1 K q.1 q.2 r243)) (_, _) (fun _ _ _ h x => x.mono (Flat.mono _) h) hl249))) ?_
    rintro ⟨ad251, cap252⟩
    refine DF.und () (fun _ => .agg [.string (bs x231.text), .slice ad251 r243.length cap252].toArray) (fun _ K => Sl (Flat (encI .i64)) 1 K ad251 cap252 r243) (fun _ _ _ h x => x.mono (Flat.mono _) h) (by kernel_rfl) rfl (fun a w K hS hA hF => TG.pa hS hA (bu (cs := [.string (bs x231.text), .slice ad251 r243.length cap252]) T10.B137 rfl rfl rfl (finF (f := fun _ => .agg [.string (bs x231.text), .slice ad251 r243.length cap252].toArray) (G := fun _ K => Sl (Flat (encI .i64)) 1 K ad251 cap252 r243) () (hF.1 rfl)))) fun _ => ?_
    refine DF.und (α := Option Addr × Nat) (none, 0) (fun q => .slice q.1 1 q.2) (fun (q : Option Addr × Nat) K => Sl (RWord) 2 K q.1 q.2 ([(⟨x231.text, r243⟩ : Word)] : List Word)) (fun _ _ _ h x => x.mono (RWord.mono) h) (by kernel_rfl) rfl (fun a w K hS hA hF => TG.pa hS hA (bS (cs := [.string (bs x231.text), .slice ad251 r243.length cap252]) T10.E59 rfl rfl rfl rfl fun q254 K255 hq256 hK257 => by
      refine TG.pack (fun K => Sl (RWord) 2 K (some q254) 1 ([(⟨x231.text, r243⟩ : Word)] : List Word)) (fun H le => Sl.litR (css := [[.string (bs x231.text), .slice ad251 r243.length cap252]]) (l := ([(⟨x231.text, r243⟩ : Word)] : List Word)) ⟨⟨rfl, rfl, ⟨_, _, rfl, ((hF.1 rfl).mono (Flat.mono _) (le.at 1 rfl))⟩⟩, tv⟩ hq256 (hK257.mono (le.at 0 rfl)) rfl) fun K259 hl258 => ?_
      have := hl258.len
      refine sk1 ?_
      exact finU (f := fun q => .slice q.1 1 q.2) (G := (fun (q : Option Addr × Nat) K => Sl (RWord) 2 K q.1 q.2 ([(⟨x231.text, r243⟩ : Word)] : List Word))) (_, _) (fun _ _ _ h x => x.mono (RWord.mono) h) hl258)) ?_
    rintro ⟨ad261, cap262⟩
    refine DF.nil fun K263 hF => ?_
    obtain ⟨hu260, hu253, hu250, _⟩ := hF
    have := hu250.len
    have := hu260.len
    obtain ⟨hk264, hr265⟩ := chk_some hr245
    have := lenA s175.2 ([(⟨x231.text, r243⟩ : Word)] : List Word)
    refine TG.pack (fun K => Sl (RWord) 2 K ad261 cap262 ([(⟨x231.text, r243⟩ : Word)] : List Word) ∧ Rows (RWord) 2 K css178 s175.2) (fun H le => ⟨hu260.mono (RWord.mono) (le.at 0 rfl), hR180.mono (RWord.mono) (le.at 1 rfl)⟩) fun K268 ⟨hm269, hR270⟩ => (apR 4 (l := s175.2) (m := ([(⟨x231.text, r243⟩ : Word)] : List Word)) T10.E59 rfl rfl rfl rfl rfl rfl hm269 hR270 RWord.one rfl hk264 fun ad266 cap267 css272 hR271 => (fb 0 U62 rfl rfl rfl rfl Z59 (sto 2 (cs := [.slice ad266 ((s175.2 ++ ([(⟨x231.text, r243⟩ : Word)] : List Word)).length) cap267]) Z59 rfl rfl rfl rfl rfl rfl rfl (on (rg (m1 rfl (adI rfl rfl rfl (by omega) (a1 rfl (on ?_)))))))))
    cases hr265
    intro a w hS hA
    exact ⟨_, hz182, ad266, cap267, css272, K268, hS.selH [0, 3, 4] rfl, hA.cut ⟨rfl, rfl, rfl, rfl, tv⟩, hR271⟩
   ·have hr273 := if_n hc187 hr181
    refine xt rfl ?_
    cases hr273
    obtain rfl := Fin.out hz182
    intro a w hS hA
    exact ⟨ad176, cap177, css178, K179, hS, hA.cut ⟨rfl, rfl, rfl, tv⟩, hR180⟩
 ·rintro a w ⟨ad170, cap171, css172, K173, hS, hA, hR174⟩
  refine TG.ap ?_ hS hA
  refine sq (sq (rg (a1 rfl (on (TG.nilRow 6 138 4 (TG.as 6 (z := Own.list none 0 138 4 encOrder ([] : List Order)) rfl rfl ?_))))))
  obtain ⟨e340, hl341, hr342⟩ := bd_some hr169
  refine jn (fun a w => ∃ (ad343 : Option Addr) (cap344 : Nat), St M W H [K173, K8, H] [(6, Own.list ad343 cap344 138 4 encOrder e340), (4, Own.rows ad170 cap171 137 2 css172 e167), (2, cel b11 62 [.slice ad170 e167.length cap171, .slice ad343 e340.length cap344, .int .i64 r_0.columns]), (1, cel b10 62 [.slice none 0 0, .slice none 0 0, .int .i64 0])] w ∧ Has [] 63 a [(2, .pointer (some (⟨b10, 0, none⟩))), (3, .pointer (some (⟨b11, 0, none⟩)))]) ?_ ?_
  ·refine bk ?_
   refine lp hl341 (fun s345 a w => ∃ (ad346 : Option Addr) (cap347 : Nat), St M W H [K173, K8, H] [(6, Own.list ad346 cap347 138 4 encOrder s345.2), (4, Own.rows ad170 cap171 137 2 css172 e167), (2, cel b11 62 [.slice ad170 e167.length cap171, .slice ad346 s345.2.length cap347, .int .i64 r_0.columns]), (1, cel b10 62 [.slice none 0 0, .slice none 0 0, .int .i64 0])] w ∧ Has [] 63 a [(1, .pointer (some q7)), (2, .pointer (some (⟨b10, 0, none⟩))), (3, .pointer (some (⟨b11, 0, none⟩))), (5, .int .i64 (s345.1 : Int))]) ?_ ?_
   ·intro a w hS hA
    exact ⟨none, 0, hS, hA.cut ⟨rfl, rfl, rfl, rfl, tv⟩⟩
   ·rintro j s345 y350 hr348 hz349 a w ⟨ad346, cap347, hS, hA⟩
    refine TG.ap ?_ hS hA
    unfold m16_2 at hr348
    refine sq (sq (rg (m1 rfl (fb 1 U48 rfl rfl rfl rfl Z27 (ld G27 rfl rfl (((sS 1 rfl hK9).drop 1).take 1) rfl (lnL U27 rfl rfl (ltI rfl rfl rfl (on ?_))))))))
    refine ci rfl (fun hc354 => ?_) (fun hc354 => ?_)
    ·have hr355 := if_p hc354 hr348
     refine sk (sq (bk (sq (rg (fb 1 U48 rfl rfl rfl rfl Z27 (ld G27 rfl rfl (((sS 1 rfl hK9).drop 1).take 1) rfl (m1 rfl ?_)))))))
     obtain ⟨x372, hx373, hr374⟩ := bd_some hr355
     obtain ⟨p375, rfl⟩ := hl6.adr hx373
     obtain ⟨cs376, hcs377, hq378, hr379⟩ := hl6.at hx373
     obtain rfl := hr379
     refine iaP U27 Z126 rfl rfl rfl rfl (lt_of hx373) (ldA G126 Z126 rfl rfl (sS 2 rfl hq378) rfl (va (cs := [.int .i64 x372.from_, .int .i64 x372.to_, .int .i64 x372.kind, .int .i64 x372.until_]) Tryz.zeroValue126 Z126 rfl rfl rfl rfl rfl rfl rfl rfl fun q380 K381 hK382 => (on (rg (fb 1 U62 rfl rfl rfl rfl Z60 (ld G60 rfl rfl (((sO 2 rfl).drop 1).take 1) rfl (fb 0 U126 rfl rfl rfl rfl Z3 (ld G3 rfl rfl ((sS 0 rfl hK382).take 1) rfl (fb 1 U126 rfl rfl rfl rfl Z3 (ld G3 rfl rfl (((sS 0 rfl hK382).drop 1).take 1) rfl (fb 2 U126 rfl rfl rfl rfl Z3 ?_)))))))))))
     refine ld G3 rfl rfl (((sS 0 rfl hK382).drop 2).take 1) rfl (fb 3 U126 rfl rfl rfl rfl Z3 (ld G3 rfl rfl ((sS 0 rfl hK382).drop 3) rfl (bu (cs := [.int .i64 x372.from_, .int .i64 x372.to_, .int .i64 x372.kind, .int .i64 x372.until_]) T10.B138 rfl rfl rfl ?_)))
     obtain ⟨hk383, hr384⟩ := chk_some hr374
     have := lenA s345.2 [x372]
     have := len1 x372
     refine ap1 6 encOrder (l := s345.2) x372 T10.E60 rfl rfl rfl rfl rfl rfl rfl rfl rfl rfl rfl rfl hk383 fun ad385 cap386 u387 => (fb 1 U62 rfl rfl rfl rfl Z60 (sto 2 (cs := [.slice ad385 ((s345.2 ++ [x372]).length) cap386]) Z60 rfl rfl rfl rfl rfl rfl rfl (on (rg (m1 rfl (adI rfl rfl rfl (by omega) (a1 rfl (on ?_))))))))
     cases hr384
     intro a w hS hA
     exact ⟨_, hz349, ad385, cap386, hS.selH [1, 2, 3] rfl, hA.cut ⟨rfl, rfl, rfl, rfl, tv⟩⟩
    ·have hr388 := if_n hc354 hr348
     refine xt rfl ?_
     cases hr388
     obtain rfl := Fin.out hz349
     intro a w hS hA
     exact ⟨ad346, cap347, hS, hA.cut ⟨rfl, rfl, tv⟩⟩
  ·rintro a w ⟨ad343, cap344, hS, hA⟩
   refine TG.ap ?_ hS hA
   refine sq (rg (ldA G62 Z62 rfl rfl (sO 2 rfl) rfl (sto 1 (cs := [.slice ad170 e167.length cap171, .slice ad343 e340.length cap344, .int .i64 r_0.columns]) Z62 rfl rfl rfl rfl rfl rfl rfl (on (rt_ ?_)))))
   cases hr342
   intro a w hS hA
   refine rc1 hA rfl (ResAt.cell rfl (loadsA G62 Z62 (cell_at (hS.get (t := 1) rfl)) rfl)) ?_
   exact ⟨⟨_, rfl, ⟨_, _, _, _, rfl, (hS.rowsOut 4 rfl 0 rfl (RWord.mono) hR174), (hS.listOut 6 rfl (fun _ => rfl))⟩⟩, hS.ext⟩

theorem w17 {M : Prop} {W : World} {H : Hp} (hH : H.le (hp W)) {cs_x_0 : List Value} (x_0 : Reader) (h_x_0 : (RReader) H cs_x_0 x_0) {r : Reader} (hr : m17 x_0 = some r) : Calls Tryz.prog 17 [.agg cs_x_0.toArray].toArray W (RetK M H W (fun v K => ∃ (cs0 : List Value), v = .agg cs0.toArray ∧ (RReader) K cs0 r)) := by
 have hh_x_0 := h_x_0
 obtain ⟨ad1, cap2, rfl, hl3⟩ := h_x_0
 have := hl3.len
 unfold m17 at hr
 refine enterG (M := M) Tryz.func17 rfl Tryz.ntmps17 rfl hH ?_
 refine sq (rg (bI (cs := [.int .i64 x_0.year, .slice ad1 x_0.may.length cap2]) rfl rfl rfl fun q4 K5 hK6 => (al 1 (cs := [.int .i64 0, .slice none 0 0]) Tryz.zeroValue64 rfl rfl fun b7 => (on (sq ?_)))))
 obtain ⟨r8, hx9, hr10⟩ := bd_some hr
 refine drG 5 mixed (by kernel_rfl) rfl (dt rfl (fb 0 U30 rfl rfl rfl rfl Z3 fin1) (dt rfl (ld G3 rfl rfl ((sS 1 rfl hK6).take 1) rfl fin1) (dt rfl (fb 1 U30 rfl rfl rfl rfl Z28 fin1) (dt rfl (ld G28 rfl rfl ((sS 1 rfl hK6).drop 1) rfl fin1) ?_))))
 refine DF.und (α := Option Addr × Nat) (none, 0) (fun q => .slice q.1 r8.length q.2) (fun (q : Option Addr × Nat) K => Sl (Flat (encI .i64)) 1 K q.1 q.2 r8) (fun _ _ _ h x => x.mono (Flat.mono _) h) (by kernel_rfl) rfl (fun a w K hS hA hF => TG.pa hS hA (clK C42 rfl rfl rfl rfl (fun w H hH le => w42 hH (hl3.mono (Flat.mono _) (le.at 2 rfl)) hx9) (by
   rintro v_ K11 ⟨ad12, cap13, rfl, hl14⟩
   exact finU (f := fun q => .slice q.1 r8.length q.2) (G := (fun (q : Option Addr × Nat) K => Sl (Flat (encI .i64)) 1 K q.1 q.2 r8)) (_, _) (fun _ _ _ h x => x.mono (Flat.mono _) h) hl14))) ?_
 rintro ⟨ad16, cap17⟩
 refine DF.nil fun K18 hF => ?_
 obtain ⟨hu15, _⟩ := hF
 have := hu15.len
 refine bu (cs := [.int .i64 x_0.year, .slice ad16 r8.length cap17]) T10.B64 rfl rfl rfl (sto 1 (cs := [.int .i64 x_0.year, .slice ad16 r8.length cap17]) Z64 rfl rfl rfl rfl rfl rfl rfl (on (rt_ ?_)))
 cases hr10
 intro a w hS hA
 refine rc1 hA rfl (ResAt.cell rfl (loadsA G64 Z64 (cell_at (hS.get (t := 1) rfl)) rfl)) ?_
 exact ⟨⟨_, rfl, ⟨_, _, rfl, (hu15.mono (Flat.mono _) (hS.grow 0 rfl))⟩⟩, hS.ext⟩

theorem w96 {M : Prop} {W : World} (n_0 : Int) (low : Int) (high : Int) {r : Bool} (hr : m96 n_0 low high = some r) : Calls Tryz.prog 96 [.int .i64 n_0, .int .i64 low, .int .i64 high].toArray W (RetS M W (.bool r)) := by
 unfold m96 at hr
 refine enterG (M := M) Tryz.func96 rfl Tryz.ntmps96 rfl (Hp.le.refl _) ?_
 refine sq (rg (a1 rfl (on (sq ?_))))
 obtain ⟨t4, hx5, hr6⟩ := bd_some hr
 refine jn (fun a w => St M W (hp W) [(hp W)] [] w ∧ Has [] 15 a [(6, .bool t4)]) ?_ ?_
 ·refine rg (m1 rfl (m1 rfl (leI rfl rfl rfl (m1 rfl ?_))))
  by_cases hb7 : low ≤ n_0
  ·have hr8 := if_p hb7 hx5
   refine gt hb7 rfl (m1 rfl (gt hb7 rfl (m1 rfl (gt hb7 rfl (leI rfl rfl rfl (pt hb7 rfl rfl (a1 rfl (on ?_))))))))
   cases hr8
   exact cu ⟨rfl, tv⟩
  ·have hr9 := if_n hb7 hx5
   refine gf hb7 rfl (gf hb7 rfl (gf hb7 rfl (pf hb7 rfl rfl (a1 rfl (on ?_)))))
   cases hr9
   exact cu ⟨rfl, tv⟩
 ·rintro a w ⟨hS, hA⟩
  refine TG.ap ?_ hS hA
  refine rt_ ?_
  cases hr6
  intro a w hS hA
  refine ret1 hA rfl rfl ?_
  exact ⟨rfl, hS.ext⟩

theorem w62 {M : Prop} {W : World} (n_0 : Int) {r : Bool} (hr : m62 n_0 = some r) : Calls Tryz.prog 62 [.int .i64 n_0].toArray W (RetS M W (.bool r)) := by
 unfold m62 at hr
 refine enterG (M := M) Tryz.func62 rfl Tryz.ntmps62 rfl (Hp.le.refl _) ?_
 refine sq (rg (a1 rfl (on (sq (rg (m1 rfl ?_))))))
 obtain ⟨r1, hx2, hr3⟩ := bd_some hr
 refine clS C96 rfl rfl rfl rfl (fun w H hH le => w96 n_0 0 9999 hx2) (a1 rfl (on (rt_ ?_)))
 cases hr3
 intro a w hS hA
 refine ret1 hA rfl rfl ?_
 exact ⟨rfl, hS.ext⟩

theorem w95 {M : Prop} {W : World} {H : Hp} (hH : H.le (hp W)) {cs_o_0 : List Value} (o_0 : Order) (h_o_0 : (Flat encOrder) H cs_o_0 o_0) {q_f0_ : Addr} {cs_f0_ : List Value} (f0_ : Report) (hc_f0_ : CellsAt H q_f0_ cs_f0_) (h_f0_ : (RReport) H cs_f0_ f0_) {r : Bool} (hr : m95 o_0 f0_ = some r) : Calls Tryz.prog 95 [.agg cs_o_0.toArray, .pointer (some q_f0_)].toArray W (RetS M W (.bool r)) := by
 obtain rfl := h_o_0
 have hh_f0_ := h_f0_
 obtain ⟨ad1, cap2, ad4, cap5, rfl, hl3, hl6⟩ := h_f0_
 have := hl3.len
 have := hl6.len
 unfold m95 at hr
 refine enterG (M := M) Tryz.func95 rfl Tryz.ntmps95 rfl hH ?_
 refine sq (rg (bI (cs := [.int .i64 o_0.from_, .int .i64 o_0.to_, .int .i64 o_0.kind, .int .i64 o_0.until_]) rfl rfl rfl fun q7 K8 hK9 => (a1 rfl (on (sq ?_)))))
 obtain ⟨t28, hx29, hr30⟩ := bd_some hr
 refine jn (fun a w => St M W H [K8, H] [] w ∧ Has [] 32 a [(3, .bool t28)]) ?_ ?_
 ·refine rg (fb 0 U138 rfl rfl rfl rfl Z3 (ld G3 rfl rfl ((sS 0 rfl hK9).take 1) rfl (leI rfl rfl rfl (m1 rfl ?_))))
  by_cases hb31 : (0 : Int) ≤ o_0.from_
  ·have hr32 := if_p hb31 hx29
   refine gt hb31 rfl (fb 0 U138 rfl rfl rfl rfl Z3 (gt hb31 rfl (ld G3 rfl rfl ((sS 0 rfl hK9).take 1) rfl (gt hb31 rfl (fb 1 U138 rfl rfl rfl rfl Z3 (gt hb31 rfl (ld G3 rfl rfl (((sS 0 rfl hK9).drop 1).take 1) rfl (gt hb31 rfl (ltI rfl rfl rfl (pt hb31 rfl rfl (m1 rfl ?_)))))))))))
   by_cases hb33 : o_0.from_ < o_0.to_
   ·have hr34 := if_p hb33 hr32
    refine gt hb33 rfl (fb 1 U138 rfl rfl rfl rfl Z3 (gt hb33 rfl (ld G3 rfl rfl (((sS 0 rfl hK9).drop 1).take 1) rfl (gt hb33 rfl (fb 0 U62 rfl rfl rfl rfl Z59 (gt hb33 rfl (ld G59 rfl rfl ((sS 1 rfl hc_f0_).take 1) rfl (gt hb33 rfl (lnL U59 rfl rfl (gt hb33 rfl (leI rfl rfl rfl ?_)))))))))))
    refine pt hb33 rfl rfl (m1 rfl ?_)
    by_cases hb35 : o_0.to_ ≤ (f0_.words.length : Int)
    ·have hr36 := if_p hb35 hr34
     refine gt hb35 rfl (fb 2 U138 rfl rfl rfl rfl Z3 (gt hb35 rfl (ld G3 rfl rfl (((sS 0 rfl hK9).drop 2).take 1) rfl (gt hb35 rfl ?_))))
     obtain ⟨r37, hx38, hr39⟩ := bd_some hr36
     refine clS C96 rfl rfl rfl rfl (fun w H hH le => w96 o_0.kind 0 7 hx38) (pt hb35 rfl rfl (m1 rfl ?_))
     rcases Bool.eq_false_or_eq_true (r37) with hb40 | hb40
     ·have hr41 := if_p hb40 hr39
      refine gN rfl rfl (hb40) (fb 3 U138 rfl rfl rfl rfl Z3 (gN rfl rfl (hb40) (ld G3 rfl rfl ((sS 0 rfl hK9).drop 3) rfl (gN rfl rfl (hb40) ?_))))
      obtain ⟨r42, hx43, hr44⟩ := bd_some hr41
      refine clS C62 rfl rfl rfl rfl (fun w H hH le => w62 o_0.until_ hx43) (pT rfl rfl (hb40) rfl (a1 rfl (on ?_)))
      cases hr44
      exact cu ⟨rfl, tv⟩
     ·have hr45 := if_f hb40 hr39
      refine gF rfl rfl (hb40) rfl (gF rfl rfl (hb40) rfl (gF rfl rfl (hb40) rfl (pF rfl rfl (hb40) rfl (a1 rfl (on ?_)))))
      cases hr45
      exact cu ⟨rfl, tv⟩
    ·have hr46 := if_n hb35 hr34
     refine gf hb35 rfl (gf hb35 rfl (gf hb35 rfl (pf hb35 rfl rfl (m1 rfl (gF rfl rfl rfl rfl (gF rfl rfl rfl rfl (gF rfl rfl rfl rfl (pF rfl rfl rfl rfl (a1 rfl (on ?_))))))))))
     cases hr46
     exact cu ⟨rfl, tv⟩
   ·have hr47 := if_n hb33 hr32
    refine gf hb33 rfl (gf hb33 rfl (gf hb33 rfl (gf hb33 rfl (gf hb33 rfl (gf hb33 rfl (pf hb33 rfl rfl (m1 rfl (gF rfl rfl rfl rfl (gF rfl rfl rfl rfl (gF rfl rfl rfl rfl (pF rfl rfl rfl rfl ?_)))))))))))
    refine m1 rfl (gF rfl rfl rfl rfl (gF rfl rfl rfl rfl (gF rfl rfl rfl rfl (pF rfl rfl rfl rfl (a1 rfl (on ?_))))))
    cases hr47
    exact cu ⟨rfl, tv⟩
  ·have hr48 := if_n hb31 hx29
   refine gf hb31 rfl (gf hb31 rfl (gf hb31 rfl (gf hb31 rfl (gf hb31 rfl (pf hb31 rfl rfl (m1 rfl (gF rfl rfl rfl rfl (gF rfl rfl rfl rfl (gF rfl rfl rfl rfl (gF rfl rfl rfl rfl (gF rfl rfl rfl rfl ?_)))))))))))
   refine gF rfl rfl rfl rfl (pF rfl rfl rfl rfl (m1 rfl (gF rfl rfl rfl rfl (gF rfl rfl rfl rfl (gF rfl rfl rfl rfl (pF rfl rfl rfl rfl (m1 rfl (gF rfl rfl rfl rfl (gF rfl rfl rfl rfl (gF rfl rfl rfl rfl (pF rfl rfl rfl rfl ?_)))))))))))
   refine a1 rfl (on ?_)
   cases hr48
   exact cu ⟨rfl, tv⟩
 ·rintro a w ⟨hS, hA⟩
  refine TG.ap ?_ hS hA
  refine rt_ ?_
  cases hr30
  intro a w hS hA
  refine ret1 hA rfl rfl ?_
  exact ⟨rfl, hS.ext⟩

theorem w136 {M : Prop} {W : World} {H : Hp} (hH : H.le (hp W)) {cs_x_0 : List Value} (x_0 : Word) (h_x_0 : (RWord) H cs_x_0 x_0) {q_f0_ : Addr} {fv_f0_ : Value} {f0_ : Word → Option Bool} (hc_f0_ : CellsAt H q_f0_ [fv_f0_]) (h_f0_ : FnV M Tryz.prog H fv_f0_ (SF1 (Vr RWord) Value.bool f0_)) {r : Bool} (hr : m136 x_0 f0_ = some r) : Calls Tryz.prog 136 [.agg cs_x_0.toArray, .pointer (some q_f0_)].toArray W (RetS M W (.bool r)) := by
 have hh_x_0 := h_x_0
 obtain ⟨ad1, cap2, rfl, hl3⟩ := h_x_0
 have := hl3.len
 have hh_f0_ := h_f0_
 obtain ⟨f_f0_, fi_f0_, ca_f0_, rfl, _, _⟩ := h_f0_
 unfold m136 at hr
 refine enterG (M := M) Tryz.func136 rfl Tryz.ntmps136 rfl hH ?_
 refine sq (rg (bI (cs := [.string (bs x_0.text), .slice ad1 x_0.heads.length cap2]) rfl rfl rfl fun q4 K5 hK6 => (a1 rfl (on (sq (rg (ld G207 rfl rfl (sS 1 rfl hc_f0_) rfl (ldA G137 Z137 rfl rfl (sS 0 rfl hK6) rfl ?_))))))))
 obtain ⟨r7, hx8, hr9⟩ := bd_some hr
 refine clV (v := .bool r7) hh_f0_ 1 rfl rfl rfl rfl (fun H le => ⟨_, x_0, r7, rfl, ⟨_, rfl, (RWord.mono _ _ _ _ (le.at 1 rfl) hh_x_0)⟩, hx8, rfl⟩) (nt rfl rfl (a1 rfl (on (rt_ ?_))))
 cases hr9
 intro a w hS hA
 refine ret1 hA rfl rfl ?_
 exact ⟨rfl, hS.ext⟩

theorem w177 {M : Prop} {W : World} {H : Hp} (hH : H.le (hp W)) {ad_s_0 : Option Addr} {cap_s_0 : Nat} {s_0 : List Word} (h_s_0 : Sl (RWord) 2 H ad_s_0 cap_s_0 s_0) {fv_f_1 : Value} {f_1 : Word → Option Bool} (h_f_1 : FnV M Tryz.prog H fv_f_1 (SF1 (Vr RWord) Value.bool f_1)) {r : Int} (hr : m177 s_0 f_1 = some r) : Calls Tryz.prog 177 [.slice ad_s_0 s_0.length cap_s_0, fv_f_1].toArray W (RetS M W (.int .i64 r)) := by
 have := h_s_0.len
 have hh_f_1 := h_f_1
 obtain ⟨f_f_1, fi_f_1, ca_f_1, rfl, _, _⟩ := h_f_1
 unfold m177 at hr
 refine enterG (M := M) Tryz.func177 rfl Tryz.ntmps177 rfl hH ?_
 refine sq (rg (a1 rfl (on (sq (sq (rg (m1 rfl (lnL U59 rfl rfl (m1 rfl (on ?_))))))))))
 obtain ⟨e23, hl24, hr25⟩ := bd_some hr
 refine jn (fun a w => ∃ t26, e23 = .inl t26 ∧ St M W H [H] [] w ∧ Has [] 19 a []) ?_ ?_
 ·refine bk ?_
  refine lp hl24 (fun s27 a w => St M W H [H] [] w ∧ Has [] 19 a [(0, .slice ad_s_0 s_0.length cap_s_0), (1, .func (.func f_f_1) fi_f_1.toArray ca_f_1.toArray), (7, .int .i64 (s_0.length : Int)), (8, .int .i64 (s27 : Int))]) ?_ ?_
  ·exact cu ⟨rfl, rfl, rfl, rfl, tv⟩
  ·rintro j s27 y30 hr28 hz29 a w ⟨hS, hA⟩
   refine TG.ap ?_ hS hA
   unfold m177_1 at hr28
   refine sq (rg (ltI rfl rfl rfl (on (sq ?_))))
   refine ci rfl (fun hc34 => ?_) (fun hc34 => ?_)
   ·have hr35 := if_p hc34 hr28
    refine sk (sq (bk (sq (rg (m1 rfl (a1 rfl (on (sq (rg (m1 rfl (m1 rfl ?_)))))))))))
    refine m1 rfl ?_
    obtain ⟨x54, hx55, hr56⟩ := bd_some hr35
    obtain ⟨p57, rfl⟩ := h_s_0.adr hx55
    obtain ⟨cs58, hcs59, hq60, hr61⟩ := h_s_0.at hx55
    have hr62 := hr61
    obtain ⟨ad63, cap64, rfl, hl65⟩ := hr61
    have := hl65.len
    refine iaP U59 Z137 rfl rfl rfl rfl (lt_of hx55) (ldA G137 Z137 rfl rfl (sS 0 rfl hq60) rfl ?_)
    obtain ⟨r66, hx67, hr68⟩ := bd_some hr56
    refine clV (v := .bool r66) hh_f_1 0 rfl rfl rfl rfl (fun H le => ⟨_, x54, r66, rfl, ⟨_, rfl, (RWord.mono _ _ _ _ (le.at 0 rfl) hr62)⟩, hx67, rfl⟩) (on ?_)
    refine cb rfl (fun hc72 => ?_) (fun hc72 => ?_)
    ·have hr73 := if_p hc72 hr68
     refine sq (rg (m1 rfl (a1 rfl (on (rt_ ?_)))))
     cases hr73
     obtain rfl := Fin.out hz29
     cases hr25
     intro a w hS hA
     refine ret1 hA rfl rfl ?_
     exact ⟨rfl, hS.ext⟩
    ·have hr74 := if_f hc72 hr68
     refine sk (rg (adI rfl rfl rfl (by omega) (m1 rfl (on ?_))))
     cases hr74
     intro a w hS hA
     exact ⟨_, hz29, hS, hA.cut ⟨rfl, rfl, rfl, rfl, tv⟩⟩
   ·have hr75 := if_n hc34 hr28
    refine xt rfl ?_
    cases hr75
    obtain rfl := Fin.out hz29
    intro a w hS hA
    exact ⟨_, rfl, hS, hA.cut tv⟩
 ·rintro a w ⟨t26, rfl, hS, hA⟩
  refine TG.ap ?_ hS hA
  refine sq (rg (a1 rfl (on (rt_ ?_))))
  cases hr25
  intro a w hS hA
  refine ret1 hA rfl rfl ?_
  exact ⟨rfl, hS.ext⟩

theorem w135 {M : Prop} {W : World} {H : Hp} (hH : H.le (hp W)) {ad_s_0 : Option Addr} {cap_s_0 : Nat} {s_0 : List Word} (h_s_0 : Sl (RWord) 2 H ad_s_0 cap_s_0 s_0) {fv_f_1 : Value} {f_1 : Word → Option Bool} (h_f_1 : FnV M Tryz.prog H fv_f_1 (SF1 (Vr RWord) Value.bool f_1)) {r : Bool} (hr : m135 s_0 f_1 = some r) : Calls Tryz.prog 135 [.slice ad_s_0 s_0.length cap_s_0, fv_f_1].toArray W (RetS M W (.bool r)) := by
 have := h_s_0.len
 have hh_f_1 := h_f_1
 obtain ⟨f_f_1, fi_f_1, ca_f_1, rfl, _, _⟩ := h_f_1
 unfold m135 at hr
 refine enterG (M := M) Tryz.func135 rfl Tryz.ntmps135 rfl hH ?_
 refine sq (rg (a1 rfl (on (sq (rg (m1 rfl (m1 rfl ?_)))))))
 obtain ⟨r1, hx2, hr3⟩ := bd_some hr
 refine clS C177 rfl rfl rfl rfl (fun w H hH le => w177 hH (h_s_0.mono (RWord.mono) (le.at 0 rfl)) (f_1 := f_1) (hh_f_1.mono (le.at 0 rfl)) hx2) (geI rfl rfl rfl (a1 rfl (on (rt_ ?_))))
 cases hr3
 intro a w hS hA
 refine ret1 hA rfl rfl ?_
 exact ⟨rfl, hS.ext⟩

theorem w97 {M : Prop} {W : World} {H : Hp} (hH : H.le (hp W)) {ad_l_0 : Option Addr} {cap_l_0 : Nat} {l_0 : List Word} (h_l_0 : Sl (RWord) 2 H ad_l_0 cap_l_0 l_0) {fv_right : Value} {right : Word → Option Bool} (h_right : FnV M Tryz.prog H fv_right (SF1 (Vr RWord) Value.bool right)) {r : Bool} (hr : m97 l_0 right = some r) : Calls Tryz.prog 97 [.slice ad_l_0 l_0.length cap_l_0, fv_right].toArray W (RetS M W (.bool r)) := by
 have := h_l_0.len
 have hh_right := h_right
 obtain ⟨f_right, fi_right, ca_right, rfl, _, _⟩ := h_right
 unfold m97 at hr
 refine enterG (M := M) Tryz.func97 rfl Tryz.ntmps97 rfl hH ?_
 refine sq (rg (bI (cs := [.func (.func f_right) fi_right.toArray ca_right.toArray]) rfl rfl rfl fun q1 K2 hK3 => (a1 rfl (on (sq (rg (m1 rfl (fn rfl rfl rfl ?_))))))))
 obtain ⟨r5, hx6, hr7⟩ := bd_some hr
 refine clS (v := .bool r5) C135 rfl rfl rfl rfl (fun w H hH le => by
   have hf4 : FnV M Tryz.prog H (.func (.func 136) [].toArray [.pointer (some q1)].toArray) (SF1 (Vr RWord) Value.bool (fun x0_ => m136 x0_ right)) := ⟨136, [], [.pointer (some q1)], rfl, C136, fun w_ K_ args_ v_ hK hw hs => by obtain ⟨u0_, x0_, r_, rfl, h0_, hx, rfl⟩ := hs; obtain ⟨_, rfl, h0_⟩ := h0_; exact w136 (H := K_) hw  x0_ h0_ (f0_ := right) (hK3.mono ((le.at 0 rfl).trans hK)) (hh_right.mono ((le.at 1 rfl).trans hK)) hx⟩
   exact w135 hH (h_l_0.mono (RWord.mono) (le.at 1 rfl)) (f_1 := (fun x0_ => m136 x0_ right)) hf4 hx6) ?_
 refine nt rfl rfl (a1 rfl (on (rt_ ?_)))
 cases hr7
 intro a w hS hA
 refine ret1 hA rfl rfl ?_
 exact ⟨rfl, hS.ext⟩

theorem w98 {M : Prop} {W : World} {H : Hp} (hH : H.le (hp W)) {cs_w_0 : List Value} (w_0 : Word) (h_w_0 : (RWord) H cs_w_0 w_0) {r : Bool} (hr : m98 w_0 = some r) : Calls Tryz.prog 98 [.agg cs_w_0.toArray].toArray W (RetS M W (.bool r)) := by
 have hh_w_0 := h_w_0
 obtain ⟨ad1, cap2, rfl, hl3⟩ := h_w_0
 have := hl3.len
 unfold m98 at hr
 refine enterG (M := M) Tryz.func98 rfl Tryz.ntmps98 rfl hH ?_
 refine sq (rg (bI (cs := [.string (bs w_0.text), .slice ad1 w_0.heads.length cap2]) rfl rfl rfl fun q4 K5 hK6 => (a1 rfl (on (sq (rg (fb 1 U137 rfl rfl rfl rfl Z28 (ld G28 rfl rfl ((sS 0 rfl hK6).drop 1) rfl (lnL U28 rfl rfl (leI rfl rfl rfl (a1 rfl ?_)))))))))))
 refine on (rt_ ?_)
 obtain rfl := sj hr
 intro a w hS hA
 refine ret1 hA rfl rfl ?_
 exact ⟨rfl, hS.ext⟩

theorem w178 {M : Prop} {W : World} {H : Hp} (hH : H.le (hp W)) (x_0 : Int) {q_f0_ : Addr} {fv_f0_ : Value} {f0_ : Int → Option Bool} (hc_f0_ : CellsAt H q_f0_ [fv_f0_]) (h_f0_ : FnV M Tryz.prog H fv_f0_ (SF1 (Vi .u8) Value.bool f0_)) {r : Bool} (hr : m178 x_0 f0_ = some r) : Calls Tryz.prog 178 [.int .u8 x_0, .pointer (some q_f0_)].toArray W (RetS M W (.bool r)) := by
 have hh_f0_ := h_f0_
 obtain ⟨f_f0_, fi_f0_, ca_f0_, rfl, _, _⟩ := h_f0_
 unfold m178 at hr
 refine enterG (M := M) Tryz.func178 rfl Tryz.ntmps178 rfl hH ?_
 refine sq (rg (a1 rfl (on (sq (rg (ld G227 rfl rfl (sS 0 rfl hc_f0_) rfl (m1 rfl ?_)))))))
 obtain ⟨r1, hx2, hr3⟩ := bd_some hr
 refine clV (v := .bool r1) hh_f0_ 0 rfl rfl rfl rfl (fun H le => ⟨_, x_0, r1, rfl, rfl, hx2, rfl⟩) (nt rfl rfl (a1 rfl (on (rt_ ?_))))
 cases hr3
 intro a w hS hA
 refine ret1 hA rfl rfl ?_
 exact ⟨rfl, hS.ext⟩

theorem w137 {M : Prop} {W : World} {H : Hp} (hH : H.le (hp W)) {ad_l_0 : Option Addr} {cap_l_0 : Nat} {l_0 : List UInt8} (h_l_0 : Sl (Flat encC) 1 H ad_l_0 cap_l_0 l_0) {fv_right : Value} {right : Int → Option Bool} (h_right : FnV M Tryz.prog H fv_right (SF1 (Vi .u8) Value.bool right)) {r : Bool} (hr : m137 l_0 right = some r) : Calls Tryz.prog 137 [.slice ad_l_0 l_0.length cap_l_0, fv_right].toArray W (RetS M W (.bool r)) := by
 have := h_l_0.len
 have hh_right := h_right
 obtain ⟨f_right, fi_right, ca_right, rfl, _, _⟩ := h_right
 unfold m137 at hr
 refine enterG (M := M) Tryz.func137 rfl Tryz.ntmps137 rfl hH ?_
 refine sq (rg (bI (cs := [.func (.func f_right) fi_right.toArray ca_right.toArray]) rfl rfl rfl fun q1 K2 hK3 => (a1 rfl (on (sq (rg (m1 rfl (fn rfl rfl rfl ?_))))))))
 obtain ⟨r5, hx6, hr7⟩ := bd_some hr
 refine clS (v := .bool r5) C159 rfl rfl rfl rfl (fun w H hH le => by
   have hf4 : FnV M Tryz.prog H (.func (.func 178) [].toArray [.pointer (some q1)].toArray) (SF1 (Vi .u8) Value.bool (fun x0_ => m178 x0_ right)) := ⟨178, [], [.pointer (some q1)], rfl, C178, fun w_ K_ args_ v_ hK hw hs => by obtain ⟨u0_, x0_, r_, rfl, h0_, hx, rfl⟩ := hs; cases h0_; exact w178 (H := K_) hw  x0_ (f0_ := right) (hK3.mono ((le.at 0 rfl).trans hK)) (hh_right.mono ((le.at 1 rfl).trans hK)) hx⟩
   exact w159 hH (h_l_0.mono (Flat.mono _) (le.at 1 rfl)) (f_1 := (fun x0_ => m178 x0_ right)) hf4 hx6) ?_
 refine nt rfl rfl (a1 rfl (on (rt_ ?_)))
 cases hr7
 intro a w hS hA
 refine ret1 hA rfl rfl ?_
 exact ⟨rfl, hS.ext⟩

theorem w138 {M : Prop} {W : World} (c_0 : Int) {r : Bool} (hr : m138 c_0 = some r) : Calls Tryz.prog 138 [.int .u8 c_0].toArray W (RetS M W (.bool r)) := by
 unfold m138 at hr
 refine enterG (M := M) Tryz.func138 rfl Tryz.ntmps138 rfl (Hp.le.refl _) ?_
 refine sq (rg (a1 rfl (on (sq ?_))))
 obtain ⟨t4, hx5, hr6⟩ := bd_some hr
 refine jn (fun a w => St M W (hp W) [(hp W)] [] w ∧ Has [] 9 a [(2, .bool t4)]) ?_ ?_
 ·refine rg (m1 rfl (leI rfl rfl rfl (m1 rfl ?_)))
  by_cases hb7 : (33 : Int) ≤ c_0
  ·have hr8 := if_p hb7 hx5
   refine gt hb7 rfl (m1 rfl (gt hb7 rfl (leI rfl rfl rfl (pt hb7 rfl rfl (a1 rfl (on ?_))))))
   cases hr8
   exact cu ⟨rfl, tv⟩
  ·have hr9 := if_n hb7 hx5
   refine gf hb7 rfl (gf hb7 rfl (pf hb7 rfl rfl (a1 rfl (on ?_))))
   cases hr9
   exact cu ⟨rfl, tv⟩
 ·rintro a w ⟨hS, hA⟩
  refine TG.ap ?_ hS hA
  refine rt_ ?_
  cases hr6
  intro a w hS hA
  refine ret1 hA rfl rfl ?_
  exact ⟨rfl, hS.ext⟩

theorem w63 {M : Prop} {W : World} {H : Hp} (hH : H.le (hp W)) {ad_l_0 : Option Addr} {cap_l_0 : Nat} {l_0 : List Int} (h_l_0 : Sl (Flat (encI .i64)) 1 H ad_l_0 cap_l_0 l_0) (most : Int) {r : Bool} (hr : m63 l_0 most = some r) : Calls Tryz.prog 63 [.slice ad_l_0 l_0.length cap_l_0, .int .i64 most].toArray W (RetS M W (.bool r)) := by
 have := h_l_0.len
 unfold m63 at hr
 refine enterG (M := M) Tryz.func63 rfl Tryz.ntmps63 rfl hH ?_
 refine sq (rg (a1 rfl (on (sq (sq (rg (m1 rfl (lnL U28 rfl rfl (m1 rfl (on ?_))))))))))
 obtain ⟨e33, hl34, hr35⟩ := bd_some hr
 refine jn (fun a w => ∃ t36, e33 = .inl t36 ∧ St M W H [H] [] w ∧ Has [] 32 a []) ?_ ?_
 ·refine bk ?_
  refine lp hl34 (fun s37 a w => St M W H [H] [] w ∧ Has [] 32 a [(0, .slice ad_l_0 l_0.length cap_l_0), (1, .int .i64 most), (7, .slice ad_l_0 l_0.length cap_l_0), (8, .int .i64 (l_0.length : Int)), (9, .int .i64 (s37 : Int))]) ?_ ?_
  ·exact cu ⟨rfl, rfl, rfl, rfl, rfl, tv⟩
  ·rintro j s37 y40 hr38 hz39 a w ⟨hS, hA⟩
   refine TG.ap ?_ hS hA
   unfold m63_1 at hr38
   refine sq (rg (ltI rfl rfl rfl (on (sq ?_))))
   refine ci rfl (fun hc44 => ?_) (fun hc44 => ?_)
   ·have hr45 := if_p hc44 hr38
    refine sk (sq (bk (sq (rg (m1 rfl ?_)))))
    obtain ⟨x74, hx75, hr76⟩ := bd_some hr45
    obtain ⟨p77, rfl⟩ := h_l_0.adr hx75
    obtain ⟨cs78, hcs79, hq80, hr81⟩ := h_l_0.at hx75
    obtain rfl := hr81
    refine iaP U28 Z3 rfl rfl rfl rfl (lt_of hx75) (ld G3 rfl rfl (sS 0 rfl hq80) rfl (a1 rfl (a1 rfl (on (sq ?_)))))
    obtain ⟨t98, hx99, hr100⟩ := bd_some hr76
    refine jn (fun a w => St M W H [H] [] w ∧ Has [] 32 a [(0, .slice (some p77) l_0.length cap_l_0), (1, .int .i64 most), (7, .slice (some p77) l_0.length cap_l_0), (8, .int .i64 (l_0.length : Int)), (9, .int .i64 (s37 : Int)), (30, .bool t98)]) ?_ ?_
    ·refine rg (m1 rfl (m1 rfl ?_))
     obtain ⟨r101, hx102, hr103⟩ := bd_some hx99
     refine clS C96 rfl rfl rfl rfl (fun w H hH le => w96 x74 0 most hx102) (nt rfl rfl (m1 rfl ?_))
     rcases Bool.eq_false_or_eq_true (r101) with hb104 | hb104
     ·have hr105 := if_p hb104 hr103
      refine gN rfl rfl (congrArg not (hb104)) (m1 rfl (gN rfl rfl (congrArg not (hb104)) (gtI rfl rfl rfl (gN rfl rfl (congrArg not (hb104)) (m1 rfl ?_)))))
      by_cases hb106 : 0 < (s37 : Int)
      ·have hr107 := if_p hb106 hr105
       refine gt hb106 rfl (m1 rfl (gt hb106 rfl (m1 rfl (gt hb106 rfl (m1 rfl (gt hb106 rfl (sbI rfl rfl rfl (by omega) (gt hb106 rfl ?_))))))))
       obtain ⟨x108, hx109, hr110⟩ := bd_some hr107
       obtain ⟨cs111, hcs112, hq113, hr114⟩ := h_l_0.at hx109
       obtain rfl := hr114
       refine iaP U28 Z3 rfl rfl rfl (by omega) (lt_of hx109) (gt hb106 rfl (ld G3 rfl rfl (sS 0 rfl hq113) rfl (gt hb106 rfl (leI rfl rfl rfl (gN rfl rfl (congrArg not (hb104)) (pt hb106 rfl rfl (pF rfl rfl (congrArg not (hb104)) rfl (on ?_))))))))
       cases hr110
       exact cu ⟨rfl, rfl, rfl, rfl, rfl, rfl, tv⟩
      ·have hr115 := if_n hb106 hr105
       refine gf hb106 rfl (gf hb106 rfl (gf hb106 rfl (gf hb106 rfl (gf hb106 rfl (gf hb106 rfl (gf hb106 rfl (gN rfl rfl (congrArg not (hb104)) (pf hb106 rfl rfl (pF rfl rfl (congrArg not (hb104)) rfl (on ?_))))))))))
       cases hr115
       exact cu ⟨rfl, rfl, rfl, rfl, rfl, rfl, tv⟩
     ·have hr116 := if_f hb104 hr103
      refine gF rfl rfl (congrArg not (hb104)) rfl (gF rfl rfl (congrArg not (hb104)) rfl (gF rfl rfl (congrArg not (hb104)) rfl (gU rfl rfl rfl (gU rfl rfl rfl (gU rfl rfl rfl (gU rfl rfl rfl (gU rfl rfl rfl (gU rfl rfl rfl (gU rfl rfl rfl (gF rfl rfl (congrArg not (hb104)) rfl (pT rfl rfl (congrArg not (hb104)) rfl ?_)))))))))))
      refine on ?_
      cases hr116
      exact cu ⟨rfl, rfl, rfl, rfl, rfl, rfl, tv⟩
    ·rintro a w ⟨hS, hA⟩
     refine TG.ap ?_ hS hA
     refine cb rfl (fun hc120 => ?_) (fun hc120 => ?_)
     ·have hr121 := if_p hc120 hr100
      refine sq (rg (a1 rfl (on (rt_ ?_))))
      cases hr121
      obtain rfl := Fin.out hz39
      cases hr35
      intro a w hS hA
      refine ret1 hA rfl rfl ?_
      exact ⟨rfl, hS.ext⟩
     ·have hr122 := if_f hc120 hr100
      refine sk (rg (adI rfl rfl rfl (by omega) (m1 rfl (on ?_))))
      cases hr122
      intro a w hS hA
      exact ⟨_, hz39, hS, hA.cut ⟨rfl, rfl, rfl, rfl, rfl, tv⟩⟩
   ·have hr123 := if_n hc44 hr38
    refine xt rfl ?_
    cases hr123
    obtain rfl := Fin.out hz39
    intro a w hS hA
    exact ⟨_, rfl, hS, hA.cut tv⟩
 ·rintro a w ⟨t36, rfl, hS, hA⟩
  refine TG.ap ?_ hS hA
  refine sq (rg (a1 rfl (on (rt_ ?_))))
  cases hr35
  intro a w hS hA
  refine ret1 hA rfl rfl ?_
  exact ⟨rfl, hS.ext⟩

theorem w99 {M : Prop} {W : World} {H : Hp} (hH : H.le (hp W)) {cs_w_0 : List Value} (w_0 : Word) (h_w_0 : (RWord) H cs_w_0 w_0) {r : Bool} (hr : m99 w_0 = some r) : Calls Tryz.prog 99 [.agg cs_w_0.toArray].toArray W (RetS M W (.bool r)) := by
 have hh_w_0 := h_w_0
 obtain ⟨ad1, cap2, rfl, hl3⟩ := h_w_0
 have := hl3.len
 unfold m99 at hr
 refine enterG (M := M) Tryz.func99 rfl Tryz.ntmps99 rfl hH ?_
 refine sq (rg (bI (cs := [.string (bs w_0.text), .slice ad1 w_0.heads.length cap2]) rfl rfl rfl fun q4 K5 hK6 => (a1 rfl (on (sq ?_)))))
 obtain ⟨t29, hx30, hr31⟩ := bd_some hr
 refine jn (fun a w => St M W H [K5, H] [] w ∧ Has [] 18 a [(2, .bool t29)]) ?_ ?_
 ·refine rg (fb 0 U137 rfl rfl rfl rfl Z9 (ld G9 rfl rfl ((sS 0 rfl hK6).take 1) rfl (lnS U9 rfl rfl ?_)))
  obtain ⟨r32, hx33, hr34⟩ := bd_some hx30
  refine clS C96 rfl rfl rfl rfl (fun w H hH le => w96 (w_0.text.length : Int) 1 20 hx33) (m1 rfl ?_)
  rcases Bool.eq_false_or_eq_true (r32) with hb35 | hb35
  ·have hr36 := if_p hb35 hr34
   refine gN rfl rfl (hb35) (fb 0 U137 rfl rfl rfl rfl Z9 (gN rfl rfl (hb35) (ld G9 rfl rfl ((sS 0 rfl hK6).take 1) rfl (gN rfl rfl (hb35) ?_))))
   obtain ⟨hk41, hr42⟩ := chk_some hr36
   refine cvB U9 U147 U5 rfl rfl hk41 fun ad37 cap38 K39 hl40 => ?_
   have := hl40.len
   refine gN rfl rfl (hb35) ?_
   obtain ⟨r44, hx45, hr46⟩ := bd_some hr42
   refine clS (v := .bool r44) C137 rfl rfl rfl rfl (fun w H hH le => by
     have hf43 : FnV M Tryz.prog H (.func (.func 138) [].toArray [].toArray) (SF1 (Vi .u8) Value.bool (m138)) := ⟨138, [], [], rfl, C138, fun w_ K_ args_ v_ hK hw hs => by obtain ⟨u0_, x0_, r_, rfl, h0_, hx, rfl⟩ := hs; cases h0_; exact w138  x0_  hx⟩
     exact w137 hH (hl40.mono (Flat.mono _) (le.at 0 rfl)) (right := (m138)) hf43 hx45) ?_
   refine pT rfl rfl (hb35) rfl (m1 rfl ?_)
   rcases Bool.eq_false_or_eq_true (r44) with hb47 | hb47
   ·have hr48 := if_p hb47 hr46
    refine gN rfl rfl (hb47) (fb 1 U137 rfl rfl rfl rfl Z28 (gN rfl rfl (hb47) (ld G28 rfl rfl ((sS 1 rfl hK6).drop 1) rfl (gN rfl rfl (hb47) ?_))))
    obtain ⟨r49, hx50, hr51⟩ := bd_some hr48
    refine clS C63 rfl rfl rfl rfl (fun w H hH le => w63 hH (hl3.mono (Flat.mono _) (le.at 2 rfl)) 99 hx50) (pT rfl rfl (hb47) rfl (a1 rfl (on ?_)))
    cases hr51
    intro a w hS hA
    exact ⟨hS.selH [1, 2] rfl, hA.cut ⟨rfl, tv⟩⟩
   ·have hr52 := if_f hb47 hr46
    refine gF rfl rfl (hb47) rfl (gF rfl rfl (hb47) rfl (gF rfl rfl (hb47) rfl (pF rfl rfl (hb47) rfl (a1 rfl (on ?_)))))
    cases hr52
    intro a w hS hA
    exact ⟨hS.selH [1, 2] rfl, hA.cut ⟨rfl, tv⟩⟩
  ·have hr53 := if_f hb35 hr34
   refine gF rfl rfl (hb35) rfl (gF rfl rfl (hb35) rfl (gF rfl rfl (hb35) rfl (gF rfl rfl (hb35) rfl (pF rfl rfl (hb35) rfl (m1 rfl (gF rfl rfl rfl rfl (gF rfl rfl rfl rfl (gF rfl rfl rfl rfl (pF rfl rfl rfl rfl (a1 rfl (on ?_)))))))))))
   cases hr53
   exact cu ⟨rfl, tv⟩
 ·rintro a w ⟨hS, hA⟩
  refine TG.ap ?_ hS hA
  refine rt_ ?_
  cases hr31
  intro a w hS hA
  refine ret1 hA rfl rfl ?_
  exact ⟨rfl, hS.ext⟩

theorem w140 {M : Prop} {W : World} {H : Hp} (hH : H.le (hp W)) {cs_x_0 : List Value} (x_0 : Order) (h_x_0 : (Flat encOrder) H cs_x_0 x_0) {q_f0_ : Addr} {fv_f0_ : Value} {f0_ : Order → Option Bool} (hc_f0_ : CellsAt H q_f0_ [fv_f0_]) (h_f0_ : FnV M Tryz.prog H fv_f0_ (SF1 (Va encOrder) Value.bool f0_)) {r : Bool} (hr : m140 x_0 f0_ = some r) : Calls Tryz.prog 140 [.agg cs_x_0.toArray, .pointer (some q_f0_)].toArray W (RetS M W (.bool r)) := by
 obtain rfl := h_x_0
 have hh_f0_ := h_f0_
 obtain ⟨f_f0_, fi_f0_, ca_f0_, rfl, _, _⟩ := h_f0_
 unfold m140 at hr
 refine enterG (M := M) Tryz.func140 rfl Tryz.ntmps140 rfl hH ?_
 refine sq (rg (bI (cs := [.int .i64 x_0.from_, .int .i64 x_0.to_, .int .i64 x_0.kind, .int .i64 x_0.until_]) rfl rfl rfl fun q1 K2 hK3 => (a1 rfl (on (sq (rg (ld G183 rfl rfl (sS 1 rfl hc_f0_) rfl (ldA G138 Z138 rfl rfl (sS 0 rfl hK3) rfl ?_))))))))
 obtain ⟨r4, hx5, hr6⟩ := bd_some hr
 refine clV (v := .bool r4) hh_f0_ 1 rfl rfl rfl rfl (fun H le => ⟨_, x_0, r4, rfl, rfl, hx5, rfl⟩) (nt rfl rfl (a1 rfl (on (rt_ ?_))))
 cases hr6
 intro a w hS hA
 refine ret1 hA rfl rfl ?_
 exact ⟨rfl, hS.ext⟩

theorem w179 {M : Prop} {W : World} {H : Hp} (hH : H.le (hp W)) {ad_s_0 : Option Addr} {cap_s_0 : Nat} {s_0 : List Order} (h_s_0 : Sl (Flat encOrder) 4 H ad_s_0 cap_s_0 s_0) {fv_f_1 : Value} {f_1 : Order → Option Bool} (h_f_1 : FnV M Tryz.prog H fv_f_1 (SF1 (Va encOrder) Value.bool f_1)) {r : Int} (hr : m179 s_0 f_1 = some r) : Calls Tryz.prog 179 [.slice ad_s_0 s_0.length cap_s_0, fv_f_1].toArray W (RetS M W (.int .i64 r)) := by
 have := h_s_0.len
 have hh_f_1 := h_f_1
 obtain ⟨f_f_1, fi_f_1, ca_f_1, rfl, _, _⟩ := h_f_1
 unfold m179 at hr
 refine enterG (M := M) Tryz.func179 rfl Tryz.ntmps179 rfl hH ?_
 refine sq (rg (a1 rfl (on (sq (sq (rg (m1 rfl (lnL U60 rfl rfl (m1 rfl (on ?_))))))))))
 obtain ⟨e19, hl20, hr21⟩ := bd_some hr
 refine jn (fun a w => ∃ t22, e19 = .inl t22 ∧ St M W H [H] [] w ∧ Has [] 19 a []) ?_ ?_
 ·refine bk ?_
  refine lp hl20 (fun s23 a w => St M W H [H] [] w ∧ Has [] 19 a [(0, .slice ad_s_0 s_0.length cap_s_0), (1, .func (.func f_f_1) fi_f_1.toArray ca_f_1.toArray), (7, .int .i64 (s_0.length : Int)), (8, .int .i64 (s23 : Int))]) ?_ ?_
  ·exact cu ⟨rfl, rfl, rfl, rfl, tv⟩
  ·rintro j s23 y26 hr24 hz25 a w ⟨hS, hA⟩
   refine TG.ap ?_ hS hA
   unfold m179_1 at hr24
   refine sq (rg (ltI rfl rfl rfl (on (sq ?_))))
   refine ci rfl (fun hc30 => ?_) (fun hc30 => ?_)
   ·have hr31 := if_p hc30 hr24
    refine sk (sq (bk (sq (rg (m1 rfl (a1 rfl (on (sq (rg (m1 rfl (m1 rfl ?_)))))))))))
    refine m1 rfl ?_
    obtain ⟨x46, hx47, hr48⟩ := bd_some hr31
    obtain ⟨p49, rfl⟩ := h_s_0.adr hx47
    obtain ⟨cs50, hcs51, hq52, hr53⟩ := h_s_0.at hx47
    obtain rfl := hr53
    refine iaP U60 Z138 rfl rfl rfl rfl (lt_of hx47) (ldA G138 Z138 rfl rfl (sS 0 rfl hq52) rfl ?_)
    obtain ⟨r54, hx55, hr56⟩ := bd_some hr48
    refine clV (v := .bool r54) hh_f_1 0 rfl rfl rfl rfl (fun H le => ⟨_, x46, r54, rfl, rfl, hx55, rfl⟩) (on ?_)
    refine cb rfl (fun hc60 => ?_) (fun hc60 => ?_)
    ·have hr61 := if_p hc60 hr56
     refine sq (rg (m1 rfl (a1 rfl (on (rt_ ?_)))))
     cases hr61
     obtain rfl := Fin.out hz25
     cases hr21
     intro a w hS hA
     refine ret1 hA rfl rfl ?_
     exact ⟨rfl, hS.ext⟩
    ·have hr62 := if_f hc60 hr56
     refine sk (rg (adI rfl rfl rfl (by omega) (m1 rfl (on ?_))))
     cases hr62
     intro a w hS hA
     exact ⟨_, hz25, hS, hA.cut ⟨rfl, rfl, rfl, rfl, tv⟩⟩
   ·have hr63 := if_n hc30 hr24
    refine xt rfl ?_
    cases hr63
    obtain rfl := Fin.out hz25
    intro a w hS hA
    exact ⟨_, rfl, hS, hA.cut tv⟩
 ·rintro a w ⟨t22, rfl, hS, hA⟩
  refine TG.ap ?_ hS hA
  refine sq (rg (a1 rfl (on (rt_ ?_))))
  cases hr21
  intro a w hS hA
  refine ret1 hA rfl rfl ?_
  exact ⟨rfl, hS.ext⟩

theorem w139 {M : Prop} {W : World} {H : Hp} (hH : H.le (hp W)) {ad_s_0 : Option Addr} {cap_s_0 : Nat} {s_0 : List Order} (h_s_0 : Sl (Flat encOrder) 4 H ad_s_0 cap_s_0 s_0) {fv_f_1 : Value} {f_1 : Order → Option Bool} (h_f_1 : FnV M Tryz.prog H fv_f_1 (SF1 (Va encOrder) Value.bool f_1)) {r : Bool} (hr : m139 s_0 f_1 = some r) : Calls Tryz.prog 139 [.slice ad_s_0 s_0.length cap_s_0, fv_f_1].toArray W (RetS M W (.bool r)) := by
 have := h_s_0.len
 have hh_f_1 := h_f_1
 obtain ⟨f_f_1, fi_f_1, ca_f_1, rfl, _, _⟩ := h_f_1
 unfold m139 at hr
 refine enterG (M := M) Tryz.func139 rfl Tryz.ntmps139 rfl hH ?_
 refine sq (rg (a1 rfl (on (sq (rg (m1 rfl (m1 rfl ?_)))))))
 obtain ⟨r1, hx2, hr3⟩ := bd_some hr
 refine clS C179 rfl rfl rfl rfl (fun w H hH le => w179 hH (h_s_0.mono (Flat.mono _) (le.at 0 rfl)) (f_1 := f_1) (hh_f_1.mono (le.at 0 rfl)) hx2) (geI rfl rfl rfl (a1 rfl (on (rt_ ?_))))
 cases hr3
 intro a w hS hA
 refine ret1 hA rfl rfl ?_
 exact ⟨rfl, hS.ext⟩

theorem w100 {M : Prop} {W : World} {H : Hp} (hH : H.le (hp W)) {ad_l_0 : Option Addr} {cap_l_0 : Nat} {l_0 : List Order} (h_l_0 : Sl (Flat encOrder) 4 H ad_l_0 cap_l_0 l_0) {fv_right : Value} {right : Order → Option Bool} (h_right : FnV M Tryz.prog H fv_right (SF1 (Va encOrder) Value.bool right)) {r : Bool} (hr : m100 l_0 right = some r) : Calls Tryz.prog 100 [.slice ad_l_0 l_0.length cap_l_0, fv_right].toArray W (RetS M W (.bool r)) := by
 have := h_l_0.len
 have hh_right := h_right
 obtain ⟨f_right, fi_right, ca_right, rfl, _, _⟩ := h_right
 unfold m100 at hr
 refine enterG (M := M) Tryz.func100 rfl Tryz.ntmps100 rfl hH ?_
 refine sq (rg (bI (cs := [.func (.func f_right) fi_right.toArray ca_right.toArray]) rfl rfl rfl fun q1 K2 hK3 => (a1 rfl (on (sq (rg (m1 rfl (fn rfl rfl rfl ?_))))))))
 obtain ⟨r5, hx6, hr7⟩ := bd_some hr
 refine clS (v := .bool r5) C139 rfl rfl rfl rfl (fun w H hH le => by
   have hf4 : FnV M Tryz.prog H (.func (.func 140) [].toArray [.pointer (some q1)].toArray) (SF1 (Va encOrder) Value.bool (fun x0_ => m140 x0_ right)) := ⟨140, [], [.pointer (some q1)], rfl, C140, fun w_ K_ args_ v_ hK hw hs => by obtain ⟨u0_, x0_, r_, rfl, h0_, hx, rfl⟩ := hs; cases h0_; exact w140 (H := K_) hw  x0_ rfl (f0_ := right) (hK3.mono ((le.at 0 rfl).trans hK)) (hh_right.mono ((le.at 1 rfl).trans hK)) hx⟩
   exact w139 hH (h_l_0.mono (Flat.mono _) (le.at 1 rfl)) (f_1 := (fun x0_ => m140 x0_ right)) hf4 hx6) ?_
 refine nt rfl rfl (a1 rfl (on (rt_ ?_)))
 cases hr7
 intro a w hS hA
 refine ret1 hA rfl rfl ?_
 exact ⟨rfl, hS.ext⟩

theorem w61 {M : Prop} {W : World} {H : Hp} (hH : H.le (hp W)) {cs_r_0 : List Value} (r_0 : Report) (h_r_0 : (RReport) H cs_r_0 r_0) {r : Int} (hr : m61 r_0 = some r) : Calls Tryz.prog 61 [.agg cs_r_0.toArray].toArray W (RetS M W (.int .i64 r)) := by
 have hh_r_0 := h_r_0
 obtain ⟨ad1, cap2, ad4, cap5, rfl, hl3, hl6⟩ := h_r_0
 have := hl3.len
 have := hl6.len
 unfold m61 at hr
 refine enterG (M := M) Tryz.func61 rfl Tryz.ntmps61 rfl hH ?_
 refine sq (rg (bI (cs := [.slice ad1 r_0.words.length cap2, .slice ad4 r_0.orders.length cap5, .int .i64 r_0.columns]) rfl rfl rfl fun q7 K8 hK9 => (a1 rfl (on (sq (rg (fn rfl rfl rfl (a1 rfl (on (sq (bk ?_)))))))))))
 refine sq ?_
 obtain ⟨t55, hx56, hr57⟩ := bd_some hr
 refine jn (fun a w => St M W H [K8, H] [] w ∧ Has [] 40 a [(1, .pointer (some q7)), (3, .func (.func 95) [].toArray [.pointer (some q7)].toArray), (5, .bool t55)]) ?_ ?_
 ·refine rg (fb 0 U62 rfl rfl rfl rfl Z59 (ld G59 rfl rfl ((sS 0 rfl hK9).take 1) rfl (lnL U59 rfl rfl (gtI rfl rfl rfl (m1 rfl ?_)))))
  by_cases hb58 : 60 < (r_0.words.length : Int)
  ·have hr59 := if_p hb58 hx56
   refine gf' hb58 rfl (gf' hb58 rfl (gf' hb58 rfl (gf' hb58 rfl (pt hb58 rfl rfl (m1 rfl (gF rfl rfl rfl rfl (gF rfl rfl rfl rfl (gF rfl rfl rfl rfl (gF rfl rfl rfl rfl (pT rfl rfl rfl rfl (a1 rfl ?_)))))))))))
   refine on ?_
   cases hr59
   exact cu ⟨rfl, rfl, rfl, tv⟩
  ·have hr60 := if_n hb58 hx56
   refine gt' hb58 rfl (fb 1 U62 rfl rfl rfl rfl Z60 (gt' hb58 rfl (ld G60 rfl rfl (((sS 0 rfl hK9).drop 1).take 1) rfl (gt' hb58 rfl (lnL U60 rfl rfl (gt' hb58 rfl (gtI rfl rfl rfl (pf hb58 rfl rfl (m1 rfl ?_)))))))))
   by_cases hb61 : 12 < (r_0.orders.length : Int)
   ·have hr62 := if_p hb61 hr60
    refine gf' hb61 rfl (gf' hb61 rfl (gf' hb61 rfl (gf' hb61 rfl (pt hb61 rfl rfl (a1 rfl (on ?_))))))
    cases hr62
    exact cu ⟨rfl, rfl, rfl, tv⟩
   ·have hr63 := if_n hb61 hr60
    refine gt' hb61 rfl (fb 0 U62 rfl rfl rfl rfl Z59 (gt' hb61 rfl (ld G59 rfl rfl ((sS 0 rfl hK9).take 1) rfl (gt' hb61 rfl ?_))))
    obtain ⟨r65, hx66, hr67⟩ := bd_some hr63
    refine clS (v := .bool r65) C97 rfl rfl rfl rfl (fun w H hH le => by
      have hf64 : FnV M Tryz.prog H (.func (.func 98) [].toArray [].toArray) (SF1 (Vr RWord) Value.bool (m98)) := ⟨98, [], [], rfl, C98, fun w_ K_ args_ v_ hK hw hs => by obtain ⟨u0_, x0_, r_, rfl, h0_, hx, rfl⟩ := hs; obtain ⟨_, rfl, h0_⟩ := h0_; exact w98 (H := K_) hw  x0_ h0_  hx⟩
      exact w97 hH (hl3.mono (RWord.mono) (le.at 1 rfl)) (right := (m98)) hf64 hx66) ?_
    refine gt' hb61 rfl (nt rfl rfl (pf hb61 rfl rfl (a1 rfl (on ?_))))
    cases hr67
    exact cu ⟨rfl, rfl, rfl, tv⟩
 ·rintro a w ⟨hS, hA⟩
  refine TG.ap ?_ hS hA
  refine cb rfl (fun hc92 => ?_) (fun hc92 => ?_)
  ·have hr93 := if_p hc92 hr57
   refine sq (rg (a1 rfl (on (rt_ ?_))))
   cases hr93
   intro a w hS hA
   refine ret1 hA rfl rfl ?_
   exact ⟨rfl, hS.ext⟩
  ·have hr94 := if_f hc92 hr57
   refine sq ?_
   obtain ⟨t112, hx113, hr114⟩ := bd_some hr94
   refine jn (fun a w => St M W H [K8, H] [] w ∧ Has [] 40 a [(22, .bool t112)]) ?_ ?_
   ·refine rg (fb 0 U62 rfl rfl rfl rfl Z59 (ld G59 rfl rfl ((sS 0 rfl hK9).take 1) rfl ?_))
    obtain ⟨r116, hx117, hr118⟩ := bd_some hx113
    refine clS (v := .bool r116) C97 rfl rfl rfl rfl (fun w H hH le => by
      have hf115 : FnV M Tryz.prog H (.func (.func 99) [].toArray [].toArray) (SF1 (Vr RWord) Value.bool (m99)) := ⟨99, [], [], rfl, C99, fun w_ K_ args_ v_ hK hw hs => by obtain ⟨u0_, x0_, r_, rfl, h0_, hx, rfl⟩ := hs; obtain ⟨_, rfl, h0_⟩ := h0_; exact w99 (H := K_) hw  x0_ h0_  hx⟩
      exact w97 hH (hl3.mono (RWord.mono) (le.at 1 rfl)) (right := (m99)) hf115 hx117) ?_
    refine nt rfl rfl (m1 rfl ?_)
    rcases Bool.eq_false_or_eq_true (r116) with hb119 | hb119
    ·have hr120 := if_p hb119 hr118
     refine gN rfl rfl (congrArg not (hb119)) (fb 1 U62 rfl rfl rfl rfl Z60 (gN rfl rfl (congrArg not (hb119)) (ld G60 rfl rfl (((sS 0 rfl hK9).drop 1).take 1) rfl (gN rfl rfl (congrArg not (hb119)) (m1 rfl (gN rfl rfl (congrArg not (hb119)) ?_))))))
     obtain ⟨r122, hx123, hr124⟩ := bd_some hr120
     refine clS (v := .bool r122) C100 rfl rfl rfl rfl (fun w H hH le => by
       have hf121 : FnV M Tryz.prog H (.func (.func 95) [].toArray [.pointer (some q7)].toArray) (SF1 (Va encOrder) Value.bool (fun x0_ => m95 x0_ r_0)) := ⟨95, [], [.pointer (some q7)], rfl, C95, fun w_ K_ args_ v_ hK hw hs => by obtain ⟨u0_, x0_, r_, rfl, h0_, hx, rfl⟩ := hs; cases h0_; exact w95 (H := K_) hw  x0_ rfl r_0 (hK9.mono ((le.at 0 rfl).trans hK)) ⟨_, _, _, _, rfl, (hl3.mono (RWord.mono) ((le.at 1 rfl).trans hK)), (hl6.mono (Flat.mono _) ((le.at 1 rfl).trans hK))⟩ hx⟩
       exact w100 hH (hl6.mono (Flat.mono _) (le.at 1 rfl)) (right := (fun x0_ => m95 x0_ r_0)) hf121 hx123) ?_
     refine gN rfl rfl (congrArg not (hb119)) (nt rfl rfl (pF rfl rfl (congrArg not (hb119)) rfl (m1 rfl ?_)))
     rcases Bool.eq_false_or_eq_true (r122) with hb125 | hb125
     ·have hr126 := if_p hb125 hr124
      refine gN rfl rfl (congrArg not (hb125)) (fb 2 U62 rfl rfl rfl rfl Z3 (gN rfl rfl (congrArg not (hb125)) (ld G3 rfl rfl ((sS 0 rfl hK9).drop 2) rfl (gN rfl rfl (congrArg not (hb125)) ?_))))
      obtain ⟨r127, hx128, hr129⟩ := bd_some hr126
      refine clS C96 rfl rfl rfl rfl (fun w H hH le => w96 r_0.columns 1 20 hx128) (gN rfl rfl (congrArg not (hb125)) (nt rfl rfl (pF rfl rfl (congrArg not (hb125)) rfl (a1 rfl (on ?_)))))
      cases hr129
      exact cu ⟨rfl, tv⟩
     ·have hr130 := if_f hb125 hr124
      refine gF rfl rfl (congrArg not (hb125)) rfl (gF rfl rfl (congrArg not (hb125)) rfl (gF rfl rfl (congrArg not (hb125)) rfl (gF rfl rfl (congrArg not (hb125)) rfl (pT rfl rfl (congrArg not (hb125)) rfl (a1 rfl (on ?_))))))
      cases hr130
      exact cu ⟨rfl, tv⟩
    ·have hr131 := if_f hb119 hr118
     refine gF rfl rfl (congrArg not (hb119)) rfl (gF rfl rfl (congrArg not (hb119)) rfl (gF rfl rfl (congrArg not (hb119)) rfl (gF rfl rfl (congrArg not (hb119)) rfl (gF rfl rfl (congrArg not (hb119)) rfl (pT rfl rfl (congrArg not (hb119)) rfl (m1 rfl (gF rfl rfl rfl rfl (gF rfl rfl rfl rfl (gF rfl rfl rfl rfl (gF rfl rfl rfl rfl (pT rfl rfl rfl rfl ?_)))))))))))
     refine a1 rfl (on ?_)
     cases hr131
     exact cu ⟨rfl, tv⟩
   ·rintro a w ⟨hS, hA⟩
    refine TG.ap ?_ hS hA
    refine cb rfl (fun hc135 => ?_) (fun hc135 => ?_)
    ·have hr136 := if_p hc135 hr114
     refine sq (rg (a1 rfl (on (rt_ ?_))))
     cases hr136
     intro a w hS hA
     refine ret1 hA rfl rfl ?_
     exact ⟨rfl, hS.ext⟩
    ·have hr137 := if_f hc135 hr114
     refine sk (sq (rg (a1 rfl (on (rt_ ?_)))))
     cases hr137
     intro a w hS hA
     refine ret1 hA rfl rfl ?_
     exact ⟨rfl, hS.ext⟩

theorem w180 {M : Prop} {W : World} {H : Hp} (hH : H.le (hp W)) {ad_s_0 : Option Addr} {cap_s_0 : Nat} {s_0 : List Int} (h_s_0 : Sl (Flat (encI .i64)) 1 H ad_s_0 cap_s_0 s_0) (v_1 : Int) {r : Int} (hr : m180 s_0 v_1 = some r) : Calls Tryz.prog 180 [.slice ad_s_0 s_0.length cap_s_0, .int .i64 v_1].toArray W (RetS M W (.int .i64 r)) := by
 have := h_s_0.len
 unfold m180 at hr
 refine enterG (M := M) Tryz.func180 rfl Tryz.ntmps180 rfl hH ?_
 refine sq (rg (a1 rfl (on (sq (sq (rg (m1 rfl (lnL U28 rfl rfl (m1 rfl (on ?_))))))))))
 obtain ⟨e16, hl17, hr18⟩ := bd_some hr
 refine jn (fun a w => ∃ t19, e16 = .inl t19 ∧ St M W H [H] [] w ∧ Has [] 19 a []) ?_ ?_
 ·refine bk ?_
  refine lp hl17 (fun s20 a w => St M W H [H] [] w ∧ Has [] 19 a [(0, .slice ad_s_0 s_0.length cap_s_0), (1, .int .i64 v_1), (7, .int .i64 (s_0.length : Int)), (8, .int .i64 (s20 : Int))]) ?_ ?_
  ·exact cu ⟨rfl, rfl, rfl, rfl, tv⟩
  ·rintro j s20 y23 hr21 hz22 a w ⟨hS, hA⟩
   refine TG.ap ?_ hS hA
   unfold m180_1 at hr21
   refine sq (rg (ltI rfl rfl rfl (on (sq ?_))))
   refine ci rfl (fun hc27 => ?_) (fun hc27 => ?_)
   ·have hr28 := if_p hc27 hr21
    refine sk (sq (bk (sq (rg (m1 rfl (a1 rfl (on (sq (rg (m1 rfl (m1 rfl ?_)))))))))))
    refine m1 rfl ?_
    obtain ⟨x40, hx41, hr42⟩ := bd_some hr28
    obtain ⟨p43, rfl⟩ := h_s_0.adr hx41
    obtain ⟨cs44, hcs45, hq46, hr47⟩ := h_s_0.at hx41
    obtain rfl := hr47
    refine iaP U28 Z3 rfl rfl rfl rfl (lt_of hx41) (ld G3 rfl rfl (sS 0 rfl hq46) rfl (eqI rfl rfl rfl (on ?_)))
    refine ci rfl (fun hc51 => ?_) (fun hc51 => ?_)
    ·have hr52 := if_p hc51 hr42
     refine sq (rg (m1 rfl (a1 rfl (on (rt_ ?_)))))
     cases hr52
     obtain rfl := Fin.out hz22
     cases hr18
     intro a w hS hA
     refine ret1 hA rfl rfl ?_
     exact ⟨rfl, hS.ext⟩
    ·have hr53 := if_n hc51 hr42
     refine sk (rg (adI rfl rfl rfl (by omega) (m1 rfl (on ?_))))
     cases hr53
     intro a w hS hA
     exact ⟨_, hz22, hS, hA.cut ⟨rfl, rfl, rfl, rfl, tv⟩⟩
   ·have hr54 := if_n hc27 hr21
    refine xt rfl ?_
    cases hr54
    obtain rfl := Fin.out hz22
    intro a w hS hA
    exact ⟨_, rfl, hS, hA.cut tv⟩
 ·rintro a w ⟨t19, rfl, hS, hA⟩
  refine TG.ap ?_ hS hA
  refine sq (rg (a1 rfl (on (rt_ ?_))))
  cases hr18
  intro a w hS hA
  refine ret1 hA rfl rfl ?_
  exact ⟨rfl, hS.ext⟩

theorem w141 {M : Prop} {W : World} {H : Hp} (hH : H.le (hp W)) {ad_s_0 : Option Addr} {cap_s_0 : Nat} {s_0 : List Int} (h_s_0 : Sl (Flat (encI .i64)) 1 H ad_s_0 cap_s_0 s_0) (v_1 : Int) {r : Bool} (hr : m141 s_0 v_1 = some r) : Calls Tryz.prog 141 [.slice ad_s_0 s_0.length cap_s_0, .int .i64 v_1].toArray W (RetS M W (.bool r)) := by
 have := h_s_0.len
 unfold m141 at hr
 refine enterG (M := M) Tryz.func141 rfl Tryz.ntmps141 rfl hH ?_
 refine sq (rg (a1 rfl (on (sq (rg (m1 rfl (m1 rfl ?_)))))))
 obtain ⟨r1, hx2, hr3⟩ := bd_some hr
 refine clS C180 rfl rfl rfl rfl (fun w H hH le => w180 hH (h_s_0.mono (Flat.mono _) (le.at 0 rfl)) v_1 hx2) (geI rfl rfl rfl (a1 rfl (on (rt_ ?_))))
 cases hr3
 intro a w hS hA
 refine ret1 hA rfl rfl ?_
 exact ⟨rfl, hS.ext⟩

theorem w101 {M : Prop} {W : World} {H : Hp} (hH : H.le (hp W)) {cs_b_0 : List Value} (b_0 : reading) (h_b_0 : (Rreading) H cs_b_0 b_0) {cs_o_1 : List Value} (o_1 : Order) (h_o_1 : (Flat encOrder) H cs_o_1 o_1) {r : Bool} (hr : m101 b_0 o_1 = some r) : Calls Tryz.prog 101 [.agg cs_b_0.toArray, .agg cs_o_1.toArray].toArray W (RetS M W (.bool r)) := by
 have hh_b_0 := h_b_0
 obtain ⟨ad1, cap2, ad4, cap5, ad7, cap8, rfl, hl3, hl6, hl9⟩ := h_b_0
 have := hl3.len
 have := hl6.len
 have := hl9.len
 obtain rfl := h_o_1
 unfold m101 at hr
 refine enterG (M := M) Tryz.func101 rfl Tryz.ntmps101 rfl hH ?_
 refine sq (rg (bI (cs := (apV [.slice ad1 b_0.report.words.length cap2, .slice ad4 b_0.report.orders.length cap5, .int .i64 b_0.report.columns, .int .i64 b_0.reader.year, .slice ad7 b_0.reader.may.length cap8] (encA60_Bool b_0.veil))) rfl rfl rfl fun q10 K11 hK12 => (bI (cs := [.int .i64 o_1.from_, .int .i64 o_1.to_, .int .i64 o_1.kind, .int .i64 o_1.until_]) rfl rfl rfl fun q13 K14 hK15 => (a1 rfl (on (sq (rg (fb 3 U130 rfl rfl rfl rfl Z64 (fb 1 U64 rfl rfl rfl rfl Z28 (ld G28 rfl rfl (((sS 1 rfl hK12).drop 4).take 1) rfl (fb 2 U138 rfl rfl rfl rfl Z3 ?_)))))))))))
 refine ld G3 rfl rfl (((sS 0 rfl hK15).drop 2).take 1) rfl ?_
 obtain ⟨r16, hx17, hr18⟩ := bd_some hr
 refine clS C141 rfl rfl rfl rfl (fun w H hH le => w141 hH (hl9.mono (Flat.mono _) (le.at 2 rfl)) o_1.kind hx17) (nt rfl rfl (a1 rfl (on (rt_ ?_))))
 cases hr18
 intro a w hS hA
 refine ret1 hA rfl rfl ?_
 exact ⟨rfl, hS.ext⟩

theorem w64 {M : Prop} {W : World} {H : Hp} (hH : H.le (hp W)) {cs_b_0 : List Value} (b_0 : reading) (h_b_0 : (Rreading) H cs_b_0 b_0) {cs_o_1 : List Value} (o_1 : Order) (h_o_1 : (Flat encOrder) H cs_o_1 o_1) {r : Bool} (hr : m64 b_0 o_1 = some r) : Calls Tryz.prog 64 [.agg cs_b_0.toArray, .agg cs_o_1.toArray].toArray W (RetS M W (.bool r)) := by
 have hh_b_0 := h_b_0
 obtain ⟨ad1, cap2, ad4, cap5, ad7, cap8, rfl, hl3, hl6, hl9⟩ := h_b_0
 have := hl3.len
 have := hl6.len
 have := hl9.len
 obtain rfl := h_o_1
 unfold m64 at hr
 refine enterG (M := M) Tryz.func64 rfl Tryz.ntmps64 rfl hH ?_
 refine sq (rg (bI (cs := (apV [.slice ad1 b_0.report.words.length cap2, .slice ad4 b_0.report.orders.length cap5, .int .i64 b_0.report.columns, .int .i64 b_0.reader.year, .slice ad7 b_0.reader.may.length cap8] (encA60_Bool b_0.veil))) rfl rfl rfl fun q10 K11 hK12 => (bI (cs := [.int .i64 o_1.from_, .int .i64 o_1.to_, .int .i64 o_1.kind, .int .i64 o_1.until_]) rfl rfl rfl fun q13 K14 hK15 => (a1 rfl (on (sq ?_))))))
 obtain ⟨t22, hx23, hr24⟩ := bd_some hr
 refine jn (fun a w => St M W H [K14, K11, H] [] w ∧ Has [] 16 a [(4, .bool t22)]) ?_ ?_
 ·refine rg (fb 3 U130 rfl rfl rfl rfl Z64 (fb 0 U64 rfl rfl rfl rfl Z3 (ld G3 rfl rfl (((sS 1 rfl hK12).drop 3).take 1) rfl (fb 3 U138 rfl rfl rfl rfl Z3 (ld G3 rfl rfl ((sS 0 rfl hK15).drop 3) rfl (ltI rfl rfl rfl (m1 rfl ?_)))))))
  by_cases hb25 : b_0.reader.year < o_1.until_
  ·have hr26 := if_p hb25 hx23
   refine gt hb25 rfl (ldA G130 Z130 rfl rfl (sS 1 rfl hK12) rfl (gt hb25 rfl (ldA G138 Z138 rfl rfl (sS 0 rfl hK15) rfl (gt hb25 rfl ?_))))
   obtain ⟨r27, hx28, hr29⟩ := bd_some hr26
   refine clS C101 rfl rfl rfl rfl (fun w H hH le => w101 hH b_0 (Rreading.mono _ _ _ _ (le.at 2 rfl) hh_b_0) o_1 rfl hx28) (pt hb25 rfl rfl (a1 rfl (on ?_)))
   cases hr29
   exact cu ⟨rfl, tv⟩
  ·have hr30 := if_n hb25 hx23
   refine gf hb25 rfl (gf hb25 rfl (gf hb25 rfl (pf hb25 rfl rfl (a1 rfl (on ?_)))))
   cases hr30
   exact cu ⟨rfl, tv⟩
 ·rintro a w ⟨hS, hA⟩
  refine TG.ap ?_ hS hA
  refine rt_ ?_
  cases hr24
  intro a w hS hA
  refine ret1 hA rfl rfl ?_
  exact ⟨rfl, hS.ext⟩

theorem w40 {M : Prop} {W : World} {H : Hp} (hH : H.le (hp W)) {cs_r_0 : List Value} (r_0 : Report) (h_r_0 : (RReport) H cs_r_0 r_0) {cs_x_1 : List Value} (x_1 : Reader) (h_x_1 : (RReader) H cs_x_1 x_1) {r : reading × Int} (hr : m40 r_0 x_1 = some r) : Calls Tryz.prog 40 [.agg cs_r_0.toArray, .agg cs_x_1.toArray].toArray W (RetK M H W (fun v K => ∃ (cs0 : List Value), v = .tuple [.agg cs0.toArray, .int .i64 r.2].toArray ∧ (Rreading) K cs0 r.1)) := by
 have hh_r_0 := h_r_0
 obtain ⟨ad1, cap2, ad4, cap5, rfl, hl3, hl6⟩ := h_r_0
 have := hl3.len
 have := hl6.len
 have hh_x_1 := h_x_1
 obtain ⟨ad7, cap8, rfl, hl9⟩ := h_x_1
 have := hl9.len
 unfold m40 at hr
 refine enterG (M := M) Tryz.func40 rfl Tryz.ntmps40 rfl hH ?_
 refine sq (rg (bI (cs := [.slice ad1 r_0.words.length cap2, .slice ad4 r_0.orders.length cap5, .int .i64 r_0.columns]) rfl rfl rfl fun q10 K11 hK12 => (bI (cs := [.int .i64 x_1.year, .slice ad7 x_1.may.length cap8]) rfl rfl rfl fun q13 K14 hK15 => (al 1 (cs := (apV [.slice none 0 0, .slice none 0 0, .int .i64 0, .int .i64 0, .slice none 0 0] (encA60_Bool A60_Bool.zero))) Tryz.zeroValue130 rfl rfl fun b16 => (a1 rfl (on (sq (sq (rg (ldA G62 Z62 rfl rfl (sS 1 rfl hK12) rfl ?_))))))))))
 obtain ⟨r17, hx18, hr19⟩ := bd_some hr
 refine clS C61 rfl rfl rfl rfl (fun w H hH le => w61 hH r_0 (RReport.mono _ _ _ _ (le.at 2 rfl) hh_r_0) hx18) (a1 rfl (on (sq (rg (m1 rfl (neI rfl rfl rfl (on ?_)))))))
 refine ci rfl (fun hc23 => ?_) (fun hc23 => ?_)
 ·have hr24 := if_p hc23 hr19
  refine sq (rg (bu (cs := (apV [.slice none 0 0, .slice none 0 0, .int .i64 0, .int .i64 0, .slice none 0 0] (encA60_Bool A60_Bool.zero))) T10.B130 rfl rfl rfl (m1 rfl (sto 1 (cs := (apV [.slice none 0 0, .slice none 0 0, .int .i64 0, .int .i64 0, .slice none 0 0] (encA60_Bool A60_Bool.zero))) Z130 rfl rfl rfl rfl rfl rfl rfl (a1 rfl (on (rt_ ?_)))))))
  cases hr24
  intro a w hS hA
  refine rc2 hA rfl (ResAt.cell rfl (loadsA G130 Z130 (cell_at (hS.get (t := 1) rfl)) rfl)) (ResAt.tmp rfl) ?_
  exact ⟨⟨_, rfl, ⟨_, _, _, _, _, _, rfl, (Sl.nil _ _ _ _ _ (by decide)), (Sl.nil _ _ _ _ _ (by decide)), (Sl.nil _ _ _ _ _ (by decide))⟩⟩, hS.ext⟩
 ·have hr25 := if_n hc23 hr19
  refine sk (sq (sq ?_))
  obtain ⟨t35, hx36, hr37⟩ := bd_some hr25
  refine jn (fun a w => St M W H [K14, K11, H] [(1, cel b16 130 (apV [.slice none 0 0, .slice none 0 0, .int .i64 0, .int .i64 0, .slice none 0 0] (encA60_Bool A60_Bool.zero)))] w ∧ Has [] 46 a [(2, .pointer (some q10)), (3, .pointer (some q13)), (4, .pointer (some (⟨b16, 0, none⟩))), (25, .bool t35)]) ?_ ?_
  ·refine rg (fb 0 U64 rfl rfl rfl rfl Z3 (ld G3 rfl rfl ((sS 0 rfl hK15).take 1) rfl ?_))
   obtain ⟨r38, hx39, hr40⟩ := bd_some hx36
   refine clS C62 rfl rfl rfl rfl (fun w H hH le => w62 x_1.year hx39) (nt rfl rfl (m1 rfl ?_))
   rcases Bool.eq_false_or_eq_true (r38) with hb41 | hb41
   ·have hr42 := if_p hb41 hr40
    refine gN rfl rfl (congrArg not (hb41)) (fb 1 U64 rfl rfl rfl rfl Z28 (gN rfl rfl (congrArg not (hb41)) (ld G28 rfl rfl ((sS 0 rfl hK15).drop 1) rfl (gN rfl rfl (congrArg not (hb41)) ?_))))
    obtain ⟨r43, hx44, hr45⟩ := bd_some hr42
    refine clS C63 rfl rfl rfl rfl (fun w H hH le => w63 hH (hl9.mono (Flat.mono _) (le.at 2 rfl)) 7 hx44) (gN rfl rfl (congrArg not (hb41)) (nt rfl rfl (pF rfl rfl (congrArg not (hb41)) rfl (on ?_))))
    cases hr45
    exact cu ⟨rfl, rfl, rfl, rfl, tv⟩
   ·have hr46 := if_f hb41 hr40
    refine gF rfl rfl (congrArg not (hb41)) rfl (gF rfl rfl (congrArg not (hb41)) rfl (gF rfl rfl (congrArg not (hb41)) rfl (gF rfl rfl (congrArg not (hb41)) rfl (pT rfl rfl (congrArg not (hb41)) rfl (on ?_)))))
    cases hr46
    exact cu ⟨rfl, rfl, rfl, rfl, tv⟩
  ·rintro a w ⟨hS, hA⟩
   refine TG.ap ?_ hS hA
   refine cb rfl (fun hc50 => ?_) (fun hc50 => ?_)
   ·have hr51 := if_p hc50 hr37
    refine sq (rg (bu (cs := (apV [.slice none 0 0, .slice none 0 0, .int .i64 0, .int .i64 0, .slice none 0 0] (encA60_Bool A60_Bool.zero))) T10.B130 rfl rfl rfl (sto 1 (cs := (apV [.slice none 0 0, .slice none 0 0, .int .i64 0, .int .i64 0, .slice none 0 0] (encA60_Bool A60_Bool.zero))) Z130 rfl rfl rfl rfl rfl rfl rfl (a1 rfl (on (rt_ ?_))))))
    cases hr51
    intro a w hS hA
    refine rc2 hA rfl (ResAt.cell rfl (loadsA G130 Z130 (cell_at (hS.get (t := 1) rfl)) rfl)) (ResAt.tmp rfl) ?_
    exact ⟨⟨_, rfl, ⟨_, _, _, _, _, _, rfl, (Sl.nil _ _ _ _ _ (by decide)), (Sl.nil _ _ _ _ _ (by decide)), (Sl.nil _ _ _ _ _ (by decide))⟩⟩, hS.ext⟩
   ·have hr52 := if_f hc50 hr37
    refine sk (sq (rg (ldA G62 Z62 rfl rfl (sS 1 rfl hK12) rfl (ldA G64 Z64 rfl rfl (sS 0 rfl hK15) rfl (buA (cs := (encA60_Bool A60_Bool.zero)) T10.B128 rfl rfl rfl (bu (cs := (apV [.slice ad1 r_0.words.length cap2, .slice ad4 r_0.orders.length cap5, .int .i64 r_0.columns, .int .i64 x_1.year, .slice ad7 x_1.may.length cap8] (encA60_Bool A60_Bool.zero))) T10.B130 rfl rfl rfl (al 2 (cs := (apV [.slice none 0 0, .slice none 0 0, .int .i64 0, .int .i64 0, .slice none 0 0] (encA60_Bool A60_Bool.zero))) Tryz.zeroValue130 rfl rfl fun b53 => (sto 2 (cs := (apV [.slice ad1 r_0.words.length cap2, .slice ad4 r_0.orders.length cap5, .int .i64 r_0.columns, .int .i64 x_1.year, .slice ad7 x_1.may.length cap8] (encA60_Bool A60_Bool.zero))) Z130 rfl rfl rfl rfl rfl rfl rfl (on (sq (sq ?_)))))))))))
    refine rg (fb 1 U62 rfl rfl rfl rfl Z60 (ld G60 rfl rfl (((sS 1 rfl hK12).drop 1).take 1) rfl (lnL U60 rfl rfl (m1 rfl (on ?_)))))
    obtain ⟨e156, hl157, hr158⟩ := bd_some hr52
    refine jn (fun a w => St M W H [K14, K11, H] [(2, cel b53 130 (apV [.slice ad1 r_0.words.length cap2, .slice ad4 r_0.orders.length cap5, .int .i64 r_0.columns, .int .i64 x_1.year, .slice ad7 x_1.may.length cap8] (encA60_Bool e156))), (1, cel b16 130 (apV [.slice none 0 0, .slice none 0 0, .int .i64 0, .int .i64 0, .slice none 0 0] (encA60_Bool A60_Bool.zero)))] w ∧ Has [] 46 a [(4, .pointer (some (⟨b16, 0, none⟩))), (7, .pointer (some (⟨b53, 0, none⟩)))]) ?_ ?_
    ·refine bk ?_
     refine lp hl157 (fun s159 a w => St M W H [K14, K11, H] [(2, cel b53 130 (apV [.slice ad1 r_0.words.length cap2, .slice ad4 r_0.orders.length cap5, .int .i64 r_0.columns, .int .i64 x_1.year, .slice ad7 x_1.may.length cap8] (encA60_Bool s159.2))), (1, cel b16 130 (apV [.slice none 0 0, .slice none 0 0, .int .i64 0, .int .i64 0, .slice none 0 0] (encA60_Bool A60_Bool.zero)))] w ∧ Has [] 46 a [(4, .pointer (some (⟨b16, 0, none⟩))), (7, .pointer (some (⟨b53, 0, none⟩))), (32, .slice ad4 r_0.orders.length cap5), (33, .int .i64 (r_0.orders.length : Int)), (34, .int .i64 (s159.1 : Int))]) ?_ ?_
     ·exact cu ⟨rfl, rfl, rfl, rfl, rfl, tv⟩
     ·rintro j s159 y162 hr160 hz161 a w ⟨hS, hA⟩
      refine TG.ap ?_ hS hA
      unfold m40_1 at hr160
      refine sq (rg (ltI rfl rfl rfl (on (sq ?_))))
      refine ci rfl (fun hc166 => ?_) (fun hc166 => ?_)
      ·have hr167 := if_p hc166 hr160
       refine sk (sq (bk (sq (rg ?_))))
       obtain ⟨x215, hx216, hr217⟩ := bd_some hr167
       obtain ⟨p218, rfl⟩ := hl6.adr hx216
       obtain ⟨cs219, hcs220, hq221, hr222⟩ := hl6.at hx216
       obtain rfl := hr222
       refine iaP U60 Z138 rfl rfl rfl rfl (lt_of hx216) (ldA G138 Z138 rfl rfl (sS 2 rfl hq221) rfl (va (cs := [.int .i64 x215.from_, .int .i64 x215.to_, .int .i64 x215.kind, .int .i64 x215.until_]) Tryz.zeroValue138 Z138 rfl rfl rfl rfl rfl rfl rfl rfl fun q223 K224 hK225 => (on (sq (rg (ldA G130 Z130 rfl rfl (sO 2 rfl) rfl (ldA G138 Z138 rfl rfl (sS 0 rfl hK225) rfl ?_)))))))
       obtain ⟨r226, hx227, hr228⟩ := bd_some hr217
       refine clS C64 rfl rfl rfl rfl (fun w H hH le => w64 hH (⟨r_0, x_1, s159.2⟩ : reading) ⟨_, _, _, _, _, _, rfl, (hl3.mono (RWord.mono) (le.at 3 rfl)), (hl6.mono (Flat.mono _) (le.at 3 rfl)), (hl9.mono (Flat.mono _) (le.at 3 rfl))⟩ x215 rfl hx227) (on ?_)
       obtain ⟨t261, hx262, hr263⟩ := bd_some hr228
       refine jn (fun a w => St M W H [K224, K14, K11, H] [(2, cel b53 130 (apV [.slice ad1 r_0.words.length cap2, .slice (some p218) r_0.orders.length cap5, .int .i64 r_0.columns, .int .i64 x_1.year, .slice ad7 x_1.may.length cap8] (encA60_Bool t261))), (1, cel b16 130 (apV [.slice none 0 0, .slice none 0 0, .int .i64 0, .int .i64 0, .slice none 0 0] (encA60_Bool A60_Bool.zero)))] w ∧ Has [] 46 a [(4, .pointer (some (⟨b16, 0, none⟩))), (7, .pointer (some (⟨b53, 0, none⟩))), (32, .slice (some p218) r_0.orders.length cap5), (33, .int .i64 (r_0.orders.length : Int)), (34, .int .i64 (s159.1 : Int))]) ?_ ?_
       ·refine cb rfl (fun hc264 => ?_) (fun hc264 => ?_)
        ·have hr265 := if_p hc264 hx262
         refine rg (fb 5 U130 rfl rfl rfl rfl Z128 (ldA G138 Z138 rfl rfl (sS 0 rfl hK225) rfl ?_))
         obtain ⟨t292, hx293, hr294⟩ := bd_some hr265
         refine clI C65 Tryz.func65 rfl Tryz.ntmps65 rfl rfl rfl rfl (fun v w => (v = .tuple #[] ∧ St M W H [K224, K14, K11, H] [(2, cel b53 130 (apV [.slice ad1 r_0.words.length cap2, .slice (some p218) r_0.orders.length cap5, .int .i64 r_0.columns, .int .i64 x_1.year, .slice ad7 x_1.may.length cap8] (encA60_Bool t292))), (1, cel b16 130 (apV [.slice none 0 0, .slice none 0 0, .int .i64 0, .int .i64 0, .slice none 0 0] (encA60_Bool A60_Bool.zero)))] w)) ?_ ?_
         ·refine sq (rg (bI (cs := [.int .i64 x215.from_, .int .i64 x215.to_, .int .i64 x215.kind, .int .i64 x215.until_]) rfl rfl rfl fun q295 K296 hK297 => (on (sq (rg (fb 0 U138 rfl rfl rfl rfl Z3 (ld G3 rfl rfl ((sS 0 rfl hK297).take 1) rfl (a1 rfl (on ?_)))))))))
          obtain ⟨e320, hl321, hr322⟩ := bd_some hx293
          refine jn (fun a w => St M W H [K296, K224, K14, K11, H] [(2, cel b53 130 (apV [.slice ad1 r_0.words.length cap2, .slice (some p218) r_0.orders.length cap5, .int .i64 r_0.columns, .int .i64 x_1.year, .slice ad7 x_1.may.length cap8] (encA60_Bool e320))), (1, cel b16 130 (apV [.slice none 0 0, .slice none 0 0, .int .i64 0, .int .i64 0, .slice none 0 0] (encA60_Bool A60_Bool.zero)))] w ∧ Has [] 17 a []) ?_ ?_
          ·refine bk ?_
           refine lp hl321 (fun s323 a w => St M W H [K296, K224, K14, K11, H] [(2, cel b53 130 (apV [.slice ad1 r_0.words.length cap2, .slice (some p218) r_0.orders.length cap5, .int .i64 r_0.columns, .int .i64 x_1.year, .slice ad7 x_1.may.length cap8] (encA60_Bool s323.2))), (1, cel b16 130 (apV [.slice none 0 0, .slice none 0 0, .int .i64 0, .int .i64 0, .slice none 0 0] (encA60_Bool A60_Bool.zero)))] w ∧ Has [] 17 a [(0, .pointer (some (⟨b53, 5, none⟩))), (3, .pointer (some q295)), (4, .int .i64 s323.1)]) ?_ ?_
           ·exact cu ⟨rfl, rfl, rfl, tv⟩
           ·rintro j s323 y326 hr324 hz325 a w ⟨hS, hA⟩
            refine TG.ap ?_ hS hA
            unfold m40_2 at hr324
            refine sq (sq (rg (m1 rfl (fb 1 U138 rfl rfl rfl rfl Z3 (ld G3 rfl rfl (((sS 0 rfl hK297).drop 1).take 1) rfl (ltI rfl rfl rfl (on ?_)))))))
            refine ci rfl (fun hc330 => ?_) (fun hc330 => ?_)
            ·have hr331 := if_p hc330 hr324
             refine sk (sq (bk (rg (m1 rfl (m1 rfl (nl rfl rfl ?_))))))
             obtain ⟨hk337, hr338⟩ := chk_some hr331
             obtain ⟨hk339, hr340⟩ := chk_some hr338
             have hj341 : s323.1.toNat < 60 := by omega
             refine iaA U128 Z4 rfl rfl rfl (j := s323.1.toNat) (by omega) hj341 (stoJ 2 [.slice ad1 r_0.words.length cap2, .slice (some p218) r_0.orders.length cap5, .int .i64 r_0.columns, .int .i64 x_1.year, .slice ad7 x_1.may.length cap8] (encA60_Bool s323.2) (j := s323.1.toNat) Z4 rfl rfl rfl rfl rfl hj341 (A60_Bool.st (x := s323.2) hj341) (on (rg (m1 rfl ?_))))
             obtain ⟨hk342, hr343⟩ := chk_some hr340
             refine adI rfl rfl rfl hk342 (a1 rfl (on ?_))
             cases hr343
             intro a w hS hA
             exact ⟨_, hz325, hS, hA.cut ⟨rfl, rfl, rfl, tv⟩⟩
            ·have hr344 := if_n hc330 hr324
             refine xt rfl ?_
             cases hr344
             obtain rfl := Fin.out hz325
             exact cu tv
          ·rintro a w ⟨hS, hA⟩
           refine TG.ap ?_ hS hA
           cases hr322
           intro a w hS hA
           refine ret0 hA rfl ?_
           exact ⟨_, rfl, ⟨rfl, hS.selH [1, 2, 3, 4] rfl⟩⟩
         ·rintro a w v hA (⟨rfl, hS⟩)
          refine putK rfl hA hS (on ?_)
          cases hr294
          exact cu ⟨rfl, rfl, rfl, rfl, rfl, tv⟩
        ·have hr345 := if_f hc264 hx262
         refine sk ?_
         cases hr345
         exact cu ⟨rfl, rfl, rfl, rfl, rfl, tv⟩
       ·rintro a w ⟨hS, hA⟩
        refine TG.ap ?_ hS hA
        refine rg (adI rfl rfl rfl (by omega) (m1 rfl (on ?_)))
        cases hr263
        intro a w hS hA
        exact ⟨_, hz161, hS.selH [1, 2, 3] rfl, hA.cut ⟨rfl, rfl, rfl, rfl, rfl, tv⟩⟩
      ·have hr346 := if_n hc166 hr160
       refine xt rfl ?_
       cases hr346
       obtain rfl := Fin.out hz161
       exact cu ⟨rfl, rfl, tv⟩
    ·rintro a w ⟨hS, hA⟩
     refine TG.ap ?_ hS hA
     refine sq (rg (ldA G130 Z130 rfl rfl (sO 2 rfl) rfl (sto 1 (cs := (apV [.slice ad1 r_0.words.length cap2, .slice ad4 r_0.orders.length cap5, .int .i64 r_0.columns, .int .i64 x_1.year, .slice ad7 x_1.may.length cap8] (encA60_Bool e156))) Z130 rfl rfl rfl rfl rfl rfl rfl (a1 rfl (on (rt_ ?_))))))
     cases hr158
     intro a w hS hA
     refine rc2 hA rfl (ResAt.cell rfl (loadsA G130 Z130 (cell_at (hS.get (t := 1) rfl)) rfl)) (ResAt.tmp rfl) ?_
     exact ⟨⟨_, rfl, ⟨_, _, _, _, _, _, rfl, (hl3.mono (RWord.mono) (hS.grow 2 rfl)), (hl6.mono (Flat.mono _) (hS.grow 2 rfl)), (hl9.mono (Flat.mono _) (hS.grow 2 rfl))⟩⟩, hS.ext⟩

theorem w66 {M : Prop} {W : World} {H : Hp} (hH : H.le (hp W)) {fv_yield : Value} {yield : Int → Piece → Option Bool} (h_yield : FnV M Tryz.prog H fv_yield (SF2 (Vi .i64) (Va encPiece) Value.bool yield)) {q_f0_ : Addr} {cs_f0_ : List Value} (f0_ : reading) (hc_f0_ : CellsAt H q_f0_ cs_f0_) (h_f0_ : (Rreading) H cs_f0_ f0_) {r : Unit} (hr : m66 yield f0_ = some r) : Calls Tryz.prog 66 [fv_yield, .pointer (some q_f0_)].toArray W (RetS M W (.tuple #[])) := by
 have hh_yield := h_yield
 obtain ⟨f_yield, fi_yield, ca_yield, rfl, _, _⟩ := h_yield
 have hh_f0_ := h_f0_
 obtain ⟨ad1, cap2, ad4, cap5, ad7, cap8, rfl, hl3, hl6, hl9⟩ := h_f0_
 have := hl3.len
 have := hl6.len
 have := hl9.len
 unfold m66 at hr
 refine enterG (M := M) Tryz.func66 rfl Tryz.ntmps66 rfl hH ?_
 refine sq (rg (a1 rfl (on (sq (rg (fb 0 U130 rfl rfl rfl rfl Z62 (fb 0 U62 rfl rfl rfl rfl Z59 (ld G59 rfl rfl ((sS 0 rfl hc_f0_).take 1) rfl (lnL U59 rfl rfl (m1 rfl (on ?_)))))))))))
 obtain ⟨e61, hl62, hr63⟩ := bd_some hr
 refine jn (fun a w => ∃ t64, e61 = .inl t64 ∧ St M W H [H] [] w ∧ Has [] 49 a []) ?_ ?_
 ·refine bk ?_
  refine lp hl62 (fun s65 a w => St M W H [H] [] w ∧ Has [] 49 a [(0, .func (.func f_yield) fi_yield.toArray ca_yield.toArray), (1, .pointer (some q_f0_)), (3, .int .i64 (s65.1 : Int)), (10, .slice ad1 f0_.report.words.length cap2), (11, .int .i64 (f0_.report.words.length : Int)), (12, .int .i64 (s65.2 : Int))]) ?_ ?_
  ·exact cu ⟨rfl, rfl, rfl, rfl, rfl, rfl, tv⟩
  ·rintro j s65 y68 hr66 hz67 a w ⟨hS, hA⟩
   refine TG.ap ?_ hS hA
   unfold m66_1 at hr66
   refine sq (rg (ltI rfl rfl rfl (on (sq ?_))))
   refine ci rfl (fun hc72 => ?_) (fun hc72 => ?_)
   ·have hr73 := if_p hc72 hr66
    refine sk (sq ?_)
    obtain ⟨t120, hx121, hr122⟩ := bd_some hr73
    refine jn (fun a w => ∃ t123, t120 = .inl t123 ∧ St M W H [H] [] w ∧ Has [] 49 a [(0, .func (.func f_yield) fi_yield.toArray ca_yield.toArray), (1, .pointer (some q_f0_)), (3, .int .i64 (t123 : Int)), (10, .slice ad1 f0_.report.words.length cap2), (11, .int .i64 (f0_.report.words.length : Int)), (12, .int .i64 (s65.2 : Int))]) ?_ ?_
    ·refine bk (sq (rg (m1 rfl ?_)))
     obtain ⟨x124, hx125, hr126⟩ := bd_some hx121
     obtain ⟨p127, rfl⟩ := hl3.adr hx125
     obtain ⟨cs128, hcs129, hq130, hr131⟩ := hl3.at hx125
     have hr132 := hr131
     obtain ⟨ad133, cap134, rfl, hl135⟩ := hr131
     have := hl135.len
     refine iaP U59 Z137 rfl rfl rfl rfl (lt_of hx125) (ldA G137 Z137 rfl rfl (sS 0 rfl hq130) rfl (al 1 (cs := [.string (bs []), .slice none 0 0]) Tryz.zeroValue137 rfl rfl fun b136 => (a1 rfl (sto 1 (cs := [.string (bs x124.text), .slice ad133 x124.heads.length cap134]) Z137 rfl rfl rfl rfl rfl rfl rfl (on (sq (TG.stillC 1 rfl fun K137 hK138 => ?_)))))))
     obtain ⟨hk139, hr140⟩ := chk_some hr126
     obtain ⟨hk141, hr142⟩ := chk_some hr140
     refine drG3 11 [10] [(9, 26, .int .i64 (s65.2 : Int))] mixed (fun _ _ _ _ _ h => h) (by kernel_rfl) (by kernel_rfl) (by kernel_rfl) rfl (by kernel_rfl) (.cons rfl rfl rfl (fun _ => rfl) (by kernel_rfl) (by kernel_rfl) (fun _ _ => rfl) (mvY rfl) (.nil)) (DC.detA rfl rfl rfl (fun τ a w K hS hA hF => TG.pa hS hA (fb 0 U137 rfl rfl rfl rfl Z9 fin1)) (DC.detA rfl rfl rfl (fun τ a w K hS hA hF => TG.pa hS hA (ld G9 rfl rfl ((sS 1 rfl hK138).take 1) rfl fin1)) (DC.detA rfl rfl rfl (fun τ a w K hS hA hF => TG.pa hS hA (m1 rfl fin1)) (DC.detA rfl rfl rfl (fun τ a w K hS hA hF => TG.pa hS hA (fb 0 U130 rfl rfl rfl rfl Z62 fin1)) (DC.detA rfl rfl rfl (fun τ a w K hS hA hF => TG.pa hS hA (fb 2 U62 rfl rfl rfl rfl Z3 fin1)) (DC.detA rfl rfl rfl (fun τ a w K hS hA hF => TG.pa hS hA (ld G3 rfl rfl (((sS 2 rfl hc_f0_).drop 2).take 1) rfl fin1)) (DC.detA rfl rfl rfl (fun τ a w K hS hA hF => TG.pa hS hA (quI rfl rfl rfl hk139 fin1)) (DC.detA rfl rfl rfl (fun τ a w K hS hA hF => TG.pa hS hA (adI rfl rfl rfl hk141 fin1)) (DC.detA rfl rfl rfl (fun τ a w K hS hA hF => TG.pa hS hA (bu (cs := [.string (bs x124.text), .int .i64 (((s65.1 : Int) / f0_.report.columns) + 1)]) T10.B67 rfl rfl rfl fin1)) (DC.pre (.head _) rfl (DC.turn (α := Nat) 0 (fun b143 => .pointer (some (⟨b143, 0, none⟩))) (fun _ _ => True) (fun b143 => [(2, cel b143 67 [.string (bs []), .int .i64 0])]) rfl (fun _ _ _ _ h => h) (by kernel_rfl) rfl rfl (fun a w K hS hA hF => TG.pa hS hA (al 2 (cs := [.string (bs []), .int .i64 0]) Tryz.zeroValue67 rfl rfl fun b143 => finT (f := fun b143 => .pointer (some (⟨b143, 0, none⟩))) (G := fun _ _ => True) (σ1 := fun b143 => [(2, cel b143 67 [.string (bs []), .int .i64 0])]) b143 tv)) fun b143 => ?_)))))))))))
     refine DC.nil fun K144 hF => ?_
     obtain ⟨_, _⟩ := hF
     refine sto 2 (cs := [.string (bs x124.text), .int .i64 (((s65.1 : Int) / f0_.report.columns) + 1)]) Z67 rfl rfl rfl rfl rfl rfl rfl (a1 rfl (on (sq (sq (rg (m1 rfl (fb 5 U130 rfl rfl rfl rfl Z128 ?_)))))))
     obtain ⟨hk145, hr146⟩ := chk_some hr142
     have hj147 : s65.2 < 60 := by omega
     refine iaA U128 Z4 rfl rfl rfl (j := s65.2) rfl hj147 (ld G4 rfl rfl (sS 2 rfl ((hc_f0_.drop 5).arr s65.2 (A60_Bool.at (x := f0_.veil) hj147))) rfl (on ?_))
     obtain ⟨t161, hx162, hr163⟩ := bd_some hr146
     refine jn (fun a w => ∃ t164, t161 = .inl t164 ∧ St M W H [K144, K137, H] [(2, cel b143 67 [.string (bs t164.2), .int .i64 (((s65.1 : Int) / f0_.report.columns) + 1)])] w ∧ Has [] 49 a [(0, .func (.func f_yield) fi_yield.toArray ca_yield.toArray), (1, .pointer (some q_f0_)), (3, .int .i64 (s65.1 : Int)), (6, .pointer (some (⟨b143, 0, none⟩))), (7, .int .i64 t164.1), (10, .slice (some p127) f0_.report.words.length cap2), (11, .int .i64 (f0_.report.words.length : Int)), (12, .int .i64 (s65.2 : Int))]) ?_ ?_
     ·refine cb rfl (fun hc165 => ?_) (fun hc165 => ?_)
      ·have hr166 := if_p hc165 hx162
       refine sq (sq ?_)
       obtain ⟨t173, hx174, hr175⟩ := bd_some hr166
       refine jn (fun a w => St M W H [K144, K137, H] [(2, cel b143 67 [.string (bs x124.text), .int .i64 (((s65.1 : Int) / f0_.report.columns) + 1)])] w ∧ Has [] 49 a [(0, .func (.func f_yield) fi_yield.toArray ca_yield.toArray), (1, .pointer (some q_f0_)), (3, .int .i64 (s65.1 : Int)), (6, .pointer (some (⟨b143, 0, none⟩))), (10, .slice (some p127) f0_.report.words.length cap2), (11, .int .i64 (f0_.report.words.length : Int)), (12, .int .i64 (s65.2 : Int)), (39, .bool t173)]) ?_ ?_
       ·refine rg (m1 rfl (gtI rfl rfl rfl (m1 rfl ?_)))
        by_cases hb176 : 0 < (s65.2 : Int)
        ·have hr177 := if_p hb176 hx174
         refine gt hb176 rfl (m1 rfl (gt hb176 rfl (sbI rfl rfl rfl (by omega) (gt hb176 rfl (fb 5 U130 rfl rfl rfl rfl Z128 (gt hb176 rfl ?_))))))
         obtain ⟨hk178, hr179⟩ := chk_some hr177
         have hj180 : ((s65.2 : Int) - 1).toNat < 60 := by omega
         refine iaA U128 Z4 rfl rfl rfl (j := ((s65.2 : Int) - 1).toNat) (by omega) hj180 (gt hb176 rfl (ld G4 rfl rfl (sS 2 rfl ((hc_f0_.drop 5).arr (((s65.2 : Int) - 1).toNat) (A60_Bool.at (x := f0_.veil) hj180))) rfl (pt hb176 rfl rfl (on ?_))))
         cases hr179
         exact cu ⟨rfl, rfl, rfl, rfl, rfl, rfl, rfl, rfl, tv⟩
        ·have hr181 := if_n hb176 hx174
         refine gf hb176 rfl (gf hb176 rfl (gf hb176 rfl (gf hb176 rfl (gf hb176 rfl (pf hb176 rfl rfl (on ?_))))))
         cases hr181
         exact cu ⟨rfl, rfl, rfl, rfl, rfl, rfl, rfl, rfl, tv⟩
       ·rintro a w ⟨hS, hA⟩
        refine TG.ap ?_ hS hA
        refine cb rfl (fun hc185 => ?_) (fun hc185 => ?_)
        ·have hr186 := if_p hc185 hr175
         refine xt rfl ?_
         obtain ⟨z187, hr188, rfl⟩ := mp_some hr186
         cases hr163
         refine TG.del 2 ?_
         cases hr188
         intro a w hS hA
         exact ⟨_, rfl, hS.selH [2] rfl, hA.cut ⟨rfl, rfl, rfl, rfl, rfl, rfl, tv⟩⟩
        ·have hr189 := if_f hc185 hr175
         refine sk (rg (fb 0 U67 rfl rfl rfl rfl Z9 (sto 2 (cs := [.string (bs [])]) Z9 rfl rfl rfl rfl rfl rfl rfl (a1 rfl (on ?_)))))
         cases hr189
         intro a w hS hA
         exact ⟨_, rfl, hS, hA.cut ⟨rfl, rfl, rfl, rfl, rfl, rfl, rfl, rfl, tv⟩⟩
      ·have hr190 := if_f hc165 hx162
       refine sk ?_
       cases hr190
       intro a w hS hA
       exact ⟨_, rfl, hS, hA.cut ⟨rfl, rfl, rfl, rfl, rfl, rfl, rfl, rfl, tv⟩⟩
     ·rintro a w ⟨t164, rfl, hS, hA⟩
      refine TG.ap ?_ hS hA
      refine sq (sq (rg (m1 rfl (m1 rfl (ldA G67 Z67 rfl rfl (sO 2 rfl) rfl ?_)))))
      obtain ⟨r191, hx192, hr193⟩ := bd_some hr163
      refine clV (v := .bool r191) hh_yield 2 rfl rfl rfl rfl (fun H le => ⟨_, _, t164.1, (⟨t164.2, (((s65.1 : Int) / f0_.report.columns) + 1)⟩ : Piece), r191, rfl, rfl, rfl, hx192, rfl⟩) (nt rfl rfl (on ?_))
      refine cb rfl (fun hc197 => ?_) (fun hc197 => ?_)
      ·replace hc197 := nbt hc197
       have hr198 := if_f hc197 hr193
       refine rt_ ?_
       cases hr198
       cases hr122
       obtain rfl := Fin.out hz67
       cases hr63
       intro a w hS hA
       refine ret0 hA rfl ?_
       exact ⟨rfl, hS.ext⟩
      ·replace hc197 := nbf hc197
       have hr199 := if_p hc197 hr193
       refine sk (rg (m1 rfl ?_))
       obtain ⟨hk200, hr201⟩ := chk_some hr199
       refine adI rfl rfl rfl hk200 (a1 rfl (on (TG.del 2 ?_)))
       cases hr201
       intro a w hS hA
       exact ⟨_, rfl, hS.selH [2] rfl, hA.cut ⟨rfl, rfl, rfl, rfl, rfl, rfl, tv⟩⟩
    ·rintro a w ⟨t123, rfl, hS, hA⟩
     refine TG.ap ?_ hS hA
     refine rg (adI rfl rfl rfl (by omega) (m1 rfl (on ?_)))
     cases hr122
     intro a w hS hA
     exact ⟨_, hz67, hS, hA.cut ⟨rfl, rfl, rfl, rfl, rfl, rfl, tv⟩⟩
   ·have hr202 := if_n hc72 hr66
    refine xt rfl ?_
    cases hr202
    obtain rfl := Fin.out hz67
    intro a w hS hA
    exact ⟨_, rfl, hS, hA.cut tv⟩
 ·rintro a w ⟨t64, rfl, hS, hA⟩
  refine TG.ap ?_ hS hA
  cases hr63
  intro a w hS hA
  refine ret0 hA rfl ?_
  exact ⟨rfl, hS.ext⟩

end T10
