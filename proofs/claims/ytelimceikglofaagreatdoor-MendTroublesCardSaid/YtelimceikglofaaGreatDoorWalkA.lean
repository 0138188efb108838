/-
 Walks of functions of layer 4: each call comes to what the model says. Printed by a program of ours.
-/
import Derived.Test.YtelimceikglofaaGreatDoorMade
set_option linter.all false
set_option maxHeartbeats 4000000
namespace T4
open Go Go.Proofs Pk
theorem w16 {M : Prop} {W : World} {H : Hp} (hH : H.le (hp W)) {ad_l_0 : Option Addr} {cap_l_0 : Nat} {l_0 : List Bytes} (h_l_0 : Sl (Flat encS) 1 H ad_l_0 cap_l_0 l_0) (most : Int) {r : Bool} (hr : m16 l_0 most = some r) : Calls Tryz.prog 16 [.slice ad_l_0 l_0.length cap_l_0, .int .i64 most].toArray W (RetS M W (.bool r)) := by
 have := h_l_0.len
 unfold m16 at hr
 refine enterG (M := M) Tryz.func16 rfl Tryz.ntmps16 rfl hH ?_
 refine sq (rg (a1 rfl (on (sq (sq (rg (a1 rfl (on ?_))))))))
 obtain ⟨e16, hl17, hr18⟩ := bd_some hr
 refine jn (fun a w => ∃ t19, e16 = .inl t19 ∧ St M W H [H] [] w ∧ Has [] 22 a [(0, .slice ad_l_0 l_0.length cap_l_0), (1, .int .i64 most)]) ?_ ?_
 ·refine bk ?_
  refine lp hl17 (fun s20 a w => St M W H [H] [] w ∧ Has [] 22 a [(0, .slice ad_l_0 l_0.length cap_l_0), (1, .int .i64 most), (5, .int .i64 (s20 : Int))]) ?_ ?_
  ·exact cu ⟨rfl, rfl, rfl, tv⟩
  ·rintro j s20 y23 hr21 hz22 a w ⟨hS, hA⟩
   refine TG.ap ?_ hS hA
   unfold m16_1 at hr21
   refine sq (sq (rg (m1 rfl (m1 rfl (lnL U24 rfl rfl (ltI rfl rfl rfl (on ?_)))))))
   refine ci rfl (fun hc27 => ?_) (fun hc27 => ?_)
   ·have hr28 := if_p hc27 hr21
    refine sk (sq (bk (sq (rg (m1 rfl (m1 rfl ?_))))))
    obtain ⟨x40, hx41, hr42⟩ := bd_some hr28
    obtain ⟨p43, rfl⟩ := h_l_0.adr hx41
    obtain ⟨cs44, hcs45, hq46, hr47⟩ := h_l_0.at hx41
    obtain rfl := hr47
    refine iaP U24 Z9 rfl rfl rfl rfl (lt_of hx41) (ld G9 rfl rfl (sS 0 rfl hq46) rfl (lnS U9 rfl rfl (gtI rfl rfl rfl (on ?_))))
    refine ci rfl (fun hc51 => ?_) (fun hc51 => ?_)
    ·have hr52 := if_p hc51 hr42
     refine sq (rg (a1 rfl (on (rt_ ?_))))
     cases hr52
     obtain rfl := Fin.out hz22
     cases hr18
     intro a w hS hA
     refine ret1 hA rfl rfl ?_
     exact ⟨rfl, hS.ext⟩
    ·have hr53 := if_n hc51 hr42
     refine sk (rg (m1 rfl (adI rfl rfl rfl (by omega) (a1 rfl (on ?_)))))
     cases hr53
     intro a w hS hA
     exact ⟨_, hz22, hS, hA.cut ⟨rfl, rfl, rfl, tv⟩⟩
   ·have hr54 := if_n hc27 hr21
    refine xt rfl ?_
    cases hr54
    obtain rfl := Fin.out hz22
    intro a w hS hA
    exact ⟨_, rfl, hS, hA.cut ⟨rfl, rfl, tv⟩⟩
 ·rintro a w ⟨t19, rfl, hS, hA⟩
  refine TG.ap ?_ hS hA
  refine sq (rg (m1 rfl (lnL U24 rfl rfl (m1 rfl (leI rfl rfl rfl (a1 rfl (on (rt_ ?_))))))))
  cases hr18
  intro a w hS hA
  refine ret1 hA rfl rfl ?_
  exact ⟨rfl, hS.ext⟩

theorem w15 {M : Prop} {W : World} {H : Hp} (hH : H.le (hp W)) {cs_l_0 : List Value} (l_0 : Lexicon) (h_l_0 : (RLexicon) H cs_l_0 l_0) {ad_swaps : Option Addr} {cap_swaps : Nat} {swaps : List Swap} (h_swaps : Sl (Flat encSwap) 3 H ad_swaps cap_swaps swaps) {r : Bool} (hr : m15 l_0 swaps = some r) : Calls Tryz.prog 15 [.agg cs_l_0.toArray, .slice ad_swaps swaps.length cap_swaps].toArray W (RetS M W (.bool r)) := by
 have hh_l_0 := h_l_0
 obtain ⟨ad1, cap2, ad4, cap5, ad7, cap8, rfl, hl3, hl6, hl9⟩ := h_l_0
 have := hl3.len
 have := hl6.len
 have := hl9.len
 have := h_swaps.len
 unfold m15 at hr
 refine enterG (M := M) Tryz.func15 rfl Tryz.ntmps15 rfl hH ?_
 refine sq (rg (bI (cs := [.slice ad1 l_0.numbers.length cap2, .slice ad4 l_0.names.length cap5, .slice ad7 l_0.nots.length cap8]) rfl rfl rfl fun q10 K11 hK12 => (a1 rfl (on (sq (sq (rg (a1 rfl (on ?_)))))))))
 obtain ⟨e34, hl35, hr36⟩ := bd_some hr
 refine jn (fun a w => ∃ t37, e34 = .inl t37 ∧ St M W H [K11, H] [] w ∧ Has [] 64 a [(1, .slice ad_swaps swaps.length cap_swaps), (2, .pointer (some q10))]) ?_ ?_
 ·refine bk ?_
  refine lp hl35 (fun s38 a w => St M W H [K11, H] [] w ∧ Has [] 64 a [(1, .slice ad_swaps swaps.length cap_swaps), (2, .pointer (some q10)), (5, .int .i64 (s38 : Int))]) ?_ ?_
  ·exact cu ⟨rfl, rfl, rfl, tv⟩
  ·rintro j s38 y41 hr39 hz40 a w ⟨hS, hA⟩
   refine TG.ap ?_ hS hA
   unfold m15_1 at hr39
   refine sq (sq ?_)
   obtain ⟨t45, hx46, hr47⟩ := bd_some hr39
   refine jn (fun a w => St M W H [K11, H] [] w ∧ Has [] 64 a [(1, .slice ad_swaps swaps.length cap_swaps), (2, .pointer (some q10)), (5, .int .i64 (s38 : Int)), (15, .bool t45)]) ?_ ?_
   ·refine rg (m1 rfl (fb 0 U26 rfl rfl rfl rfl Z22 (ld G22 rfl rfl ((sS 0 rfl hK12).take 1) rfl (lnL U22 rfl rfl (ltI rfl rfl rfl (m1 rfl ?_))))))
    by_cases hb48 : (s38 : Int) < (l_0.numbers.length : Int)
    ·have hr49 := if_p hb48 hx46
     refine gt hb48 rfl (m1 rfl (gt hb48 rfl (ltI rfl rfl rfl (pt hb48 rfl rfl (on ?_)))))
     cases hr49
     exact cu ⟨rfl, rfl, rfl, rfl, tv⟩
    ·have hr50 := if_n hb48 hx46
     refine gf hb48 rfl (gf hb48 rfl (pf hb48 rfl rfl (on ?_)))
     cases hr50
     exact cu ⟨rfl, rfl, rfl, rfl, tv⟩
   ·rintro a w ⟨hS, hA⟩
    refine TG.ap ?_ hS hA
    refine cb rfl (fun hc54 => ?_) (fun hc54 => ?_)
    ·have hr55 := if_p hc54 hr47
     refine sk (sq (bk (sq (rg (fb 0 U26 rfl rfl rfl rfl Z22 (ld G22 rfl rfl ((sS 0 rfl hK12).take 1) rfl (m1 rfl ?_)))))))
     obtain ⟨x67, hx68, hr69⟩ := bd_some hr55
     obtain ⟨p70, rfl⟩ := hl3.adr hx68
     obtain ⟨cs71, hcs72, hq73, hr74⟩ := hl3.at hx68
     obtain rfl := hr74
     refine iaP U22 Z112 rfl rfl rfl rfl (lt_of hx68) (fb 0 U112 rfl rfl rfl rfl Z9 (ld G9 rfl rfl ((sS 1 rfl hq73).take 1) rfl (lnS U9 rfl rfl (gtI rfl rfl rfl (on ?_)))))
     refine ci rfl (fun hc78 => ?_) (fun hc78 => ?_)
     ·have hr79 := if_p hc78 hr69
      refine sq (rg (a1 rfl (on (rt_ ?_))))
      cases hr79
      obtain rfl := Fin.out hz40
      cases hr36
      intro a w hS hA
      refine ret1 hA rfl rfl ?_
      exact ⟨rfl, hS.ext⟩
     ·have hr80 := if_n hc78 hr69
      refine sk (rg (m1 rfl ?_))
      obtain ⟨hk81, hr82⟩ := chk_some hr80
      refine adI rfl rfl rfl hk81 (a1 rfl (on ?_))
      cases hr82
      intro a w hS hA
      exact ⟨_, hz40, hS, hA.cut ⟨rfl, rfl, rfl, tv⟩⟩
    ·have hr83 := if_f hc54 hr47
     refine xt rfl ?_
     cases hr83
     obtain rfl := Fin.out hz40
     intro a w hS hA
     exact ⟨_, rfl, hS, hA.cut ⟨rfl, rfl, tv⟩⟩
 ·rintro a w ⟨t37, rfl, hS, hA⟩
  refine TG.ap ?_ hS hA
  refine sq (sq (rg (a1 rfl (on ?_))))
  obtain ⟨e112, hl113, hr114⟩ := bd_some hr36
  refine jn (fun a w => ∃ t115, e112 = .inl t115 ∧ St M W H [K11, H] [] w ∧ Has [] 64 a [(1, .slice ad_swaps swaps.length cap_swaps), (2, .pointer (some q10))]) ?_ ?_
  ·refine bk ?_
   refine lp hl113 (fun s116 a w => St M W H [K11, H] [] w ∧ Has [] 64 a [(1, .slice ad_swaps swaps.length cap_swaps), (2, .pointer (some q10)), (6, .int .i64 (s116 : Int))]) ?_ ?_
   ·exact cu ⟨rfl, rfl, rfl, tv⟩
   ·rintro j s116 y119 hr117 hz118 a w ⟨hS, hA⟩
    refine TG.ap ?_ hS hA
    unfold m15_2 at hr117
    refine sq (sq ?_)
    obtain ⟨t123, hx124, hr125⟩ := bd_some hr117
    refine jn (fun a w => St M W H [K11, H] [] w ∧ Has [] 64 a [(1, .slice ad_swaps swaps.length cap_swaps), (2, .pointer (some q10)), (6, .int .i64 (s116 : Int)), (34, .bool t123)]) ?_ ?_
    ·refine rg (m1 rfl (fb 1 U26 rfl rfl rfl rfl Z23 (ld G23 rfl rfl (((sS 0 rfl hK12).drop 1).take 1) rfl (lnL U23 rfl rfl (ltI rfl rfl rfl (m1 rfl ?_))))))
     by_cases hb126 : (s116 : Int) < (l_0.names.length : Int)
     ·have hr127 := if_p hb126 hx124
      refine gt hb126 rfl (m1 rfl (gt hb126 rfl (ltI rfl rfl rfl (pt hb126 rfl rfl (on ?_)))))
      cases hr127
      exact cu ⟨rfl, rfl, rfl, rfl, tv⟩
     ·have hr128 := if_n hb126 hx124
      refine gf hb126 rfl (gf hb126 rfl (pf hb126 rfl rfl (on ?_)))
      cases hr128
      exact cu ⟨rfl, rfl, rfl, rfl, tv⟩
    ·rintro a w ⟨hS, hA⟩
     refine TG.ap ?_ hS hA
     refine cb rfl (fun hc132 => ?_) (fun hc132 => ?_)
     ·have hr133 := if_p hc132 hr125
      refine sk (sq (bk (sq (rg (fb 1 U26 rfl rfl rfl rfl Z23 (ld G23 rfl rfl (((sS 0 rfl hK12).drop 1).take 1) rfl (m1 rfl ?_)))))))
      obtain ⟨x152, hx153, hr154⟩ := bd_some hr133
      obtain ⟨p155, rfl⟩ := hl6.adr hx153
      obtain ⟨cs156, hcs157, hq158, hr159⟩ := hl6.at hx153
      have hr160 := hr159
      obtain ⟨ad161, cap162, rfl, hl163⟩ := hr159
      have := hl163.len
      refine iaP U23 Z24 rfl rfl rfl rfl (lt_of hx153) (ld G24 rfl rfl (sS 1 rfl hq158) rfl ?_)
      obtain ⟨r164, hx165, hr166⟩ := bd_some hr154
      refine clS C16 rfl rfl rfl rfl (fun w H hH le => w16 hH (hl163.mono (Flat.mono _) (le.at 1 rfl)) 8 hx165) (nt rfl rfl (on ?_))
      refine cb rfl (fun hc170 => ?_) (fun hc170 => ?_)
      ·replace hc170 := nbt hc170
       have hr171 := if_f hc170 hr166
       refine sq (rg (a1 rfl (on (rt_ ?_))))
       cases hr171
       obtain rfl := Fin.out hz118
       cases hr114
       intro a w hS hA
       refine ret1 hA rfl rfl ?_
       exact ⟨rfl, hS.ext⟩
      ·replace hc170 := nbf hc170
       have hr172 := if_p hc170 hr166
       refine sk (rg (m1 rfl ?_))
       obtain ⟨hk173, hr174⟩ := chk_some hr172
       refine adI rfl rfl rfl hk173 (a1 rfl (on ?_))
       cases hr174
       intro a w hS hA
       exact ⟨_, hz118, hS, hA.cut ⟨rfl, rfl, rfl, tv⟩⟩
     ·have hr175 := if_f hc132 hr125
      refine xt rfl ?_
      cases hr175
      obtain rfl := Fin.out hz118
      intro a w hS hA
      exact ⟨_, rfl, hS, hA.cut ⟨rfl, rfl, tv⟩⟩
  ·rintro a w ⟨t115, rfl, hS, hA⟩
   refine TG.ap ?_ hS hA
   refine sq ?_
   obtain ⟨t188, hx189, hr190⟩ := bd_some hr114
   refine jn (fun a w => St M W H [K11, H] [] w ∧ Has [] 64 a [(4, .bool t188)]) ?_ ?_
   ·refine rg (fb 0 U26 rfl rfl rfl rfl Z22 (ld G22 rfl rfl ((sS 0 rfl hK12).take 1) rfl (lnL U22 rfl rfl (leI rfl rfl rfl (m1 rfl ?_)))))
    by_cases hb191 : (l_0.numbers.length : Int) ≤ 45
    ·have hr192 := if_p hb191 hx189
     refine gt hb191 rfl (fb 1 U26 rfl rfl rfl rfl Z23 (gt hb191 rfl (ld G23 rfl rfl (((sS 0 rfl hK12).drop 1).take 1) rfl (gt hb191 rfl (lnL U23 rfl rfl (gt hb191 rfl (leI rfl rfl rfl (pt hb191 rfl rfl (m1 rfl ?_)))))))))
     by_cases hb193 : (l_0.names.length : Int) ≤ 45
     ·have hr194 := if_p hb193 hr192
      refine gt hb193 rfl (fb 2 U26 rfl rfl rfl rfl Z24 (gt hb193 rfl (ld G24 rfl rfl ((sS 0 rfl hK12).drop 2) rfl (gt hb193 rfl ?_))))
      obtain ⟨r195, hx196, hr197⟩ := bd_some hr194
      refine clS C16 rfl rfl rfl rfl (fun w H hH le => w16 hH (hl9.mono (Flat.mono _) (le.at 1 rfl)) 45 hx196) (pt hb193 rfl rfl (m1 rfl ?_))
      rcases Bool.eq_false_or_eq_true (r195) with hb198 | hb198
      ·have hr199 := if_p hb198 hr197
       refine gN rfl rfl (hb198) (m1 rfl (gN rfl rfl (hb198) (lnL U27 rfl rfl (gN rfl rfl (hb198) (leI rfl rfl rfl (pT rfl rfl (hb198) rfl (a1 rfl (on ?_))))))))
       cases hr199
       exact cu ⟨rfl, tv⟩
      ·have hr200 := if_f hb198 hr197
       refine gF rfl rfl (hb198) rfl (gF rfl rfl (hb198) rfl (gF rfl rfl (hb198) rfl (pF rfl rfl (hb198) rfl (a1 rfl (on ?_)))))
       cases hr200
       exact cu ⟨rfl, tv⟩
     ·have hr201 := if_n hb193 hr192
      refine gf hb193 rfl (gf hb193 rfl (gf hb193 rfl (pf hb193 rfl rfl (m1 rfl (gF rfl rfl rfl rfl (gF rfl rfl rfl rfl (gF rfl rfl rfl rfl (pF rfl rfl rfl rfl (a1 rfl (on ?_))))))))))
      cases hr201
      exact cu ⟨rfl, tv⟩
    ·have hr202 := if_n hb191 hx189
     refine gf hb191 rfl (gf hb191 rfl (gf hb191 rfl (gf hb191 rfl (pf hb191 rfl rfl (m1 rfl (gF rfl rfl rfl rfl (gF rfl rfl rfl rfl (gF rfl rfl rfl rfl (pF rfl rfl rfl rfl (m1 rfl (gF rfl rfl rfl rfl ?_)))))))))))
     refine gF rfl rfl rfl rfl (gF rfl rfl rfl rfl (pF rfl rfl rfl rfl (a1 rfl (on ?_))))
     cases hr202
     exact cu ⟨rfl, tv⟩
   ·rintro a w ⟨hS, hA⟩
    refine TG.ap ?_ hS hA
    refine rt_ ?_
    cases hr190
    intro a w hS hA
    refine ret1 hA rfl rfl ?_
    exact ⟨rfl, hS.ext⟩

theorem w48 {M : Prop} {W : World} {H : Hp} (hH : H.le (hp W))  {r : Lexicon × List Swap} (hr : m48 = some r) : Calls Tryz.prog 48 [].toArray W (RetK M H W (fun v K => ∃ (cs0 : List Value) (ad1 : Option Addr) (cap1 : Nat), v = .tuple [.agg cs0.toArray, .slice ad1 r.2.length cap1].toArray ∧ (RLexicon) K cs0 r.1 ∧ Sl (Flat encSwap) 3 K ad1 cap1 r.2)) := by
 unfold m48 at hr
 refine enterG (M := M) Tryz.func48 rfl Tryz.ntmps48 rfl hH ?_
 refine sq (rg (al 1 (cs := [.slice none 0 0, .slice none 0 0, .slice none 0 0]) Tryz.zeroValue36 rfl rfl fun b1 => (a1 rfl (on (sq (rg (bu (cs := [.string (bs [116, 101, 110]), .int .i64 10]) T4.B123 rfl rfl rfl (bu (cs := [.string (bs [109, 105, 108, 108, 105, 111, 110]), .int .i64 1000000]) T4.B123 rfl rfl rfl (bS (cs := [.string (bs [116, 101, 110]), .int .i64 10, .string (bs [109, 105, 108, 108, 105, 111, 110]), .int .i64 1000000]) T4.E34 rfl rfl rfl rfl fun q2 K3 hq4 hK5 => ?_)))))))))
 have hl6 : Sl (Flat encNumber) 2 K3 (some q2) 2 ([(⟨[116, 101, 110], 10⟩ : Number), (⟨[109, 105, 108, 108, 105, 111, 110], 1000000⟩ : Number)] : List Number) := Sl.litR (css := [[.string (bs [116, 101, 110]), .int .i64 10], [.string (bs [109, 105, 108, 108, 105, 111, 110]), .int .i64 1000000]]) (l := ([(⟨[116, 101, 110], 10⟩ : Number), (⟨[109, 105, 108, 108, 105, 111, 110], 1000000⟩ : Number)] : List Number)) ⟨⟨rfl, rfl, rfl⟩, ⟨rfl, rfl, rfl⟩, tv⟩ hq4 hK5 rfl
 have := hl6.len
 refine bS (cs := [.string (bs [83, 109, 105, 116, 104]), .string (bs [83, 109, 121, 116, 104])]) T4.E24 rfl rfl rfl rfl fun q7 K8 hq9 hK10 => ?_
 have hl11 : Sl (Flat encS) 1 K8 (some q7) 2 ([[83, 109, 105, 116, 104], [83, 109, 121, 116, 104]] : List Bytes) := Sl.litR (css := [[.string (bs [83, 109, 105, 116, 104])], [.string (bs [83, 109, 121, 116, 104])]]) (l := ([[83, 109, 105, 116, 104], [83, 109, 121, 116, 104]] : List Bytes)) ⟨⟨rfl, rfl, rfl⟩, ⟨rfl, rfl, rfl⟩, tv⟩ hq9 hK10 rfl
 have := hl11.len
 refine bS (cs := [.string (bs [74, 111, 110, 101, 115])]) T4.E24 rfl rfl rfl rfl fun q12 K13 hq14 hK15 => ?_
 have hl16 : Sl (Flat encS) 1 K13 (some q12) 1 ([[74, 111, 110, 101, 115]] : List Bytes) := Sl.litR (css := [[.string (bs [74, 111, 110, 101, 115])]]) (l := ([[74, 111, 110, 101, 115]] : List Bytes)) ⟨⟨rfl, rfl, rfl⟩, tv⟩ hq14 hK15 rfl
 have := hl16.len
 refine bS (cs := [.slice (some q7) 2 2, .slice (some q12) 1 1]) T4.E23 rfl rfl rfl rfl fun q17 K18 hq19 hK20 => (TG.pack (fun K => Sl (RSl (Flat encS) 1) 1 K (some q17) 2 ([([[83, 109, 105, 116, 104], [83, 109, 121, 116, 104]] : List Bytes), ([[74, 111, 110, 101, 115]] : List Bytes)] : List (List Bytes))) (fun H le => Sl.litR (css := [[.slice (some q7) 2 2], [.slice (some q12) 1 1]]) (l := ([([[83, 109, 105, 116, 104], [83, 109, 121, 116, 104]] : List Bytes), ([[74, 111, 110, 101, 115]] : List Bytes)] : List (List Bytes))) ⟨⟨rfl, rfl, ⟨_, _, rfl, (hl11.mono (Flat.mono _) (le.at 2 rfl))⟩⟩, ⟨rfl, rfl, ⟨_, _, rfl, (hl16.mono (Flat.mono _) (le.at 1 rfl))⟩⟩, tv⟩ hq19 (hK20.mono (le.at 0 rfl)) rfl) fun K22 hl21 => ?_)
 have := hl21.len
 refine bS (cs := [.string (bs [110, 111, 116]), .string (bs [110, 101, 118, 101, 114])]) T4.E24 rfl rfl rfl rfl fun q23 K24 hq25 hK26 => ?_
 have hl27 : Sl (Flat encS) 1 K24 (some q23) 2 ([[110, 111, 116], [110, 101, 118, 101, 114]] : List Bytes) := Sl.litR (css := [[.string (bs [110, 111, 116])], [.string (bs [110, 101, 118, 101, 114])]]) (l := ([[110, 111, 116], [110, 101, 118, 101, 114]] : List Bytes)) ⟨⟨rfl, rfl, rfl⟩, ⟨rfl, rfl, rfl⟩, tv⟩ hq25 hK26 rfl
 have := hl27.len
 refine bu (cs := [.slice (some q2) 2 2, .slice (some q17) 2 2, .slice (some q23) 2 2]) T4.B36 rfl rfl rfl (bu (cs := [.int .u8 1, .int .i64 10, .int .i64 12]) T4.B109 rfl rfl rfl (bS (cs := [.int .u8 1, .int .i64 10, .int .i64 12]) T4.E38 rfl rfl rfl rfl fun q28 K29 hq30 hK31 => ?_))
 have hl32 : Sl (Flat encSwap) 3 K29 (some q28) 1 ([(⟨1, 10, 12⟩ : Swap)] : List Swap) := Sl.litR (css := [[.int .u8 1, .int .i64 10, .int .i64 12]]) (l := ([(⟨1, 10, 12⟩ : Swap)] : List Swap)) ⟨⟨rfl, rfl, rfl⟩, tv⟩ hq30 hK31 rfl
 have := hl32.len
 refine sto 1 (cs := [.slice (some q2) 2 2, .slice (some q17) 2 2, .slice (some q23) 2 2]) Z36 rfl rfl rfl rfl rfl rfl rfl (a1 rfl (on (rt_ ?_)))
 obtain rfl := sj hr
 intro a w hS hA
 refine rc2 hA rfl (ResAt.cell rfl (loadsA G36 Z36 (cell_at (hS.get (t := 1) rfl)) rfl)) (ResAt.tmp rfl) ?_
 exact ⟨⟨_, _, _, rfl, ⟨_, _, _, _, _, _, rfl, (hl6.mono (Flat.mono _) (hS.grow 6 rfl)), (hl21.mono (RSl.mono (Flat.mono _)) (hS.grow 2 rfl)), (hl27.mono (Flat.mono _) (hS.grow 1 rfl))⟩, (hl32.mono (Flat.mono _) (hS.grow 0 rfl))⟩, hS.ext⟩

theorem w84 {M : Prop} {W : World} (n_0 : Int) (low : Int) (high : Int) {r : Bool} (hr : m84 n_0 low high = some r) : Calls Tryz.prog 84 [.int .i64 n_0, .int .i64 low, .int .i64 high].toArray W (RetS M W (.bool r)) := by
 unfold m84 at hr
 refine enterG (M := M) Tryz.func84 rfl Tryz.ntmps84 rfl (Hp.le.refl _) ?_
 refine sq (rg (a1 rfl (on (sq ?_))))
 obtain ⟨t4, hx5, hr6⟩ := bd_some hr
 refine jn (fun a w => St M W (hp W) [(hp W)] [] w ∧ Has [] 15 a [(6, .bool t4)]) ?_ ?_
 ·refine rg (m1 rfl (m1 rfl (leI rfl rfl rfl (m1 rfl ?_))))
  by_cases hb7 : low ≤ n_0
  ·have hr8 := if_p hb7 hx5
   refine gt hb7 rfl (m1 rfl (gt hb7 rfl (m1 rfl (gt hb7 rfl (leI rfl rfl rfl (pt hb7 rfl rfl (a1 rfl (on ?_))))))))
   cases hr8
   exact cu ⟨rfl, tv⟩
  ·have hr9 := if_n hb7 hx5
   refine gf hb7 rfl (gf hb7 rfl (gf hb7 rfl (pf hb7 rfl rfl (a1 rfl (on ?_)))))
   cases hr9
   exact cu ⟨rfl, tv⟩
 ·rintro a w ⟨hS, hA⟩
  refine TG.ap ?_ hS hA
  refine rt_ ?_
  cases hr6
  intro a w hS hA
  refine ret1 hA rfl rfl ?_
  exact ⟨rfl, hS.ext⟩

theorem w136 {M : Prop} {W : World} {H : Hp} (hH : H.le (hp W)) (x_0 : Int) {q_f0_ : Addr} {fv_f0_ : Value} {f0_ : Int → Option Bool} (hc_f0_ : CellsAt H q_f0_ [fv_f0_]) (h_f0_ : FnV M Tryz.prog H fv_f0_ (SF1 (Vi .u8) Value.bool f0_)) {r : Bool} (hr : m136 x_0 f0_ = some r) : Calls Tryz.prog 136 [.int .u8 x_0, .pointer (some q_f0_)].toArray W (RetS M W (.bool r)) := by
 have hh_f0_ := h_f0_
 obtain ⟨f_f0_, fi_f0_, ca_f0_, rfl, _, _⟩ := h_f0_
 unfold m136 at hr
 refine enterG (M := M) Tryz.func136 rfl Tryz.ntmps136 rfl hH ?_
 refine sq (rg (a1 rfl (on (sq (rg (ld G171 rfl rfl (sS 0 rfl hc_f0_) rfl (m1 rfl ?_)))))))
 obtain ⟨r1, hx2, hr3⟩ := bd_some hr
 refine clV (v := .bool r1) hh_f0_ 0 rfl rfl rfl rfl (fun H le => ⟨_, x_0, r1, rfl, rfl, hx2, rfl⟩) (nt rfl rfl (a1 rfl (on (rt_ ?_))))
 cases hr3
 intro a w hS hA
 refine ret1 hA rfl rfl ?_
 exact ⟨rfl, hS.ext⟩

theorem w153 {M : Prop} {W : World} {H : Hp} (hH : H.le (hp W)) {ad_s_0 : Option Addr} {cap_s_0 : Nat} {s_0 : List UInt8} (h_s_0 : Sl (Flat encC) 1 H ad_s_0 cap_s_0 s_0) {fv_f_1 : Value} {f_1 : Int → Option Bool} (h_f_1 : FnV M Tryz.prog H fv_f_1 (SF1 (Vi .u8) Value.bool f_1)) {r : Int} (hr : m153 s_0 f_1 = some r) : Calls Tryz.prog 153 [.slice ad_s_0 s_0.length cap_s_0, fv_f_1].toArray W (RetS M W (.int .i64 r)) := by
 have := h_s_0.len
 have hh_f_1 := h_f_1
 obtain ⟨f_f_1, fi_f_1, ca_f_1, rfl, _, _⟩ := h_f_1
 unfold m153 at hr
 refine enterG (M := M) Tryz.func153 rfl Tryz.ntmps153 rfl hH ?_
 refine sq (rg (a1 rfl (on (sq (sq (rg (m1 rfl (lnL U170 rfl rfl (m1 rfl (on ?_))))))))))
 obtain ⟨e19, hl20, hr21⟩ := bd_some hr
 refine jn (fun a w => ∃ t22, e19 = .inl t22 ∧ St M W H [H] [] w ∧ Has [] 19 a []) ?_ ?_
 ·refine bk ?_
  refine lp hl20 (fun s23 a w => St M W H [H] [] w ∧ Has [] 19 a [(0, .slice ad_s_0 s_0.length cap_s_0), (1, .func (.func f_f_1) fi_f_1.toArray ca_f_1.toArray), (7, .int .i64 (s_0.length : Int)), (8, .int .i64 (s23 : Int))]) ?_ ?_
  ·exact cu ⟨rfl, rfl, rfl, rfl, tv⟩
  ·rintro j s23 y26 hr24 hz25 a w ⟨hS, hA⟩
   refine TG.ap ?_ hS hA
   unfold m153_1 at hr24
   refine sq (rg (ltI rfl rfl rfl (on (sq ?_))))
   refine ci rfl (fun hc30 => ?_) (fun hc30 => ?_)
   ·have hr31 := if_p hc30 hr24
    refine sk (sq (bk (sq (rg (m1 rfl (a1 rfl (on (sq (rg (m1 rfl (m1 rfl ?_)))))))))))
    refine m1 rfl ?_
    obtain ⟨x46, hx47, hr48⟩ := bd_some hr31
    obtain ⟨p49, rfl⟩ := h_s_0.adr hx47
    obtain ⟨cs50, hcs51, hq52, hr53⟩ := h_s_0.at hx47
    have := UInt8.toNat_lt x46
    obtain rfl := hr53
    refine iaP U170 Z5 rfl rfl rfl rfl (lt_of hx47) (ld G5 rfl rfl (sS 0 rfl hq52) rfl ?_)
    obtain ⟨r54, hx55, hr56⟩ := bd_some hr48
    refine clV (v := .bool r54) hh_f_1 0 rfl rfl rfl rfl (fun H le => ⟨_, (x46.toNat : Int), r54, rfl, rfl, hx55, rfl⟩) (on ?_)
    refine cb rfl (fun hc60 => ?_) (fun hc60 => ?_)
    ·have hr61 := if_p hc60 hr56
     refine sq (rg (m1 rfl (a1 rfl (on (rt_ ?_)))))
     cases hr61
     obtain rfl := Fin.out hz25
     cases hr21
     intro a w hS hA
     refine ret1 hA rfl rfl ?_
     exact ⟨rfl, hS.ext⟩
    ·have hr62 := if_f hc60 hr56
     refine sk (rg (adI rfl rfl rfl (by omega) (m1 rfl (on ?_))))
     cases hr62
     intro a w hS hA
     exact ⟨_, hz25, hS, hA.cut ⟨rfl, rfl, rfl, rfl, tv⟩⟩
   ·have hr63 := if_n hc30 hr24
    refine xt rfl ?_
    cases hr63
    obtain rfl := Fin.out hz25
    intro a w hS hA
    exact ⟨_, rfl, hS, hA.cut tv⟩
 ·rintro a w ⟨t22, rfl, hS, hA⟩
  refine TG.ap ?_ hS hA
  refine sq (rg (a1 rfl (on (rt_ ?_))))
  cases hr21
  intro a w hS hA
  refine ret1 hA rfl rfl ?_
  exact ⟨rfl, hS.ext⟩

theorem w135 {M : Prop} {W : World} {H : Hp} (hH : H.le (hp W)) {ad_s_0 : Option Addr} {cap_s_0 : Nat} {s_0 : List UInt8} (h_s_0 : Sl (Flat encC) 1 H ad_s_0 cap_s_0 s_0) {fv_f_1 : Value} {f_1 : Int → Option Bool} (h_f_1 : FnV M Tryz.prog H fv_f_1 (SF1 (Vi .u8) Value.bool f_1)) {r : Bool} (hr : m135 s_0 f_1 = some r) : Calls Tryz.prog 135 [.slice ad_s_0 s_0.length cap_s_0, fv_f_1].toArray W (RetS M W (.bool r)) := by
 have := h_s_0.len
 have hh_f_1 := h_f_1
 obtain ⟨f_f_1, fi_f_1, ca_f_1, rfl, _, _⟩ := h_f_1
 unfold m135 at hr
 refine enterG (M := M) Tryz.func135 rfl Tryz.ntmps135 rfl hH ?_
 refine sq (rg (a1 rfl (on (sq (rg (m1 rfl (m1 rfl ?_)))))))
 obtain ⟨r1, hx2, hr3⟩ := bd_some hr
 refine clS C153 rfl rfl rfl rfl (fun w H hH le => w153 hH (h_s_0.mono (Flat.mono _) (le.at 0 rfl)) (f_1 := f_1) (hh_f_1.mono (le.at 0 rfl)) hx2) (geI rfl rfl rfl (a1 rfl (on (rt_ ?_))))
 cases hr3
 intro a w hS hA
 refine ret1 hA rfl rfl ?_
 exact ⟨rfl, hS.ext⟩

theorem w104 {M : Prop} {W : World} {H : Hp} (hH : H.le (hp W)) {ad_l_0 : Option Addr} {cap_l_0 : Nat} {l_0 : List UInt8} (h_l_0 : Sl (Flat encC) 1 H ad_l_0 cap_l_0 l_0) {fv_right : Value} {right : Int → Option Bool} (h_right : FnV M Tryz.prog H fv_right (SF1 (Vi .u8) Value.bool right)) {r : Bool} (hr : m104 l_0 right = some r) : Calls Tryz.prog 104 [.slice ad_l_0 l_0.length cap_l_0, fv_right].toArray W (RetS M W (.bool r)) := by
 have := h_l_0.len
 have hh_right := h_right
 obtain ⟨f_right, fi_right, ca_right, rfl, _, _⟩ := h_right
 unfold m104 at hr
 refine enterG (M := M) Tryz.func104 rfl Tryz.ntmps104 rfl hH ?_
 refine sq (rg (bI (cs := [.func (.func f_right) fi_right.toArray ca_right.toArray]) rfl rfl rfl fun q1 K2 hK3 => (a1 rfl (on (sq (rg (m1 rfl (fn rfl rfl rfl ?_))))))))
 obtain ⟨r5, hx6, hr7⟩ := bd_some hr
 refine clS (v := .bool r5) C135 rfl rfl rfl rfl (fun w H hH le => by
   have hf4 : FnV M Tryz.prog H (.func (.func 136) [].toArray [.pointer (some q1)].toArray) (SF1 (Vi .u8) Value.bool (fun x0_ => m136 x0_ right)) := ⟨136, [], [.pointer (some q1)], rfl, C136, fun w_ K_ args_ v_ hK hw hs => by obtain ⟨u0_, x0_, r_, rfl, h0_, hx, rfl⟩ := hs; cases h0_; exact w136 (H := K_) hw  x0_ (f0_ := right) (hK3.mono ((le.at 0 rfl).trans hK)) (hh_right.mono ((le.at 1 rfl).trans hK)) hx⟩
   exact w135 hH (h_l_0.mono (Flat.mono _) (le.at 1 rfl)) (f_1 := (fun x0_ => m136 x0_ right)) hf4 hx6) ?_
 refine nt rfl rfl (a1 rfl (on (rt_ ?_)))
 cases hr7
 intro a w hS hA
 refine ret1 hA rfl rfl ?_
 exact ⟨rfl, hS.ext⟩

theorem w105 {M : Prop} {W : World} (b_0 : Int) {r : Bool} (hr : m105 b_0 = some r) : Calls Tryz.prog 105 [.int .u8 b_0].toArray W (RetS M W (.bool r)) := by
 unfold m105 at hr
 refine enterG (M := M) Tryz.func105 rfl Tryz.ntmps105 rfl (Hp.le.refl _) ?_
 refine sq (rg (a1 rfl (on (sq ?_))))
 obtain ⟨t4, hx5, hr6⟩ := bd_some hr
 refine jn (fun a w => St M W (hp W) [(hp W)] [] w ∧ Has [] 9 a [(2, .bool t4)]) ?_ ?_
 ·refine rg (m1 rfl (leI rfl rfl rfl (m1 rfl ?_)))
  by_cases hb7 : (33 : Int) ≤ b_0
  ·have hr8 := if_p hb7 hx5
   refine gt hb7 rfl (m1 rfl (gt hb7 rfl (leI rfl rfl rfl (pt hb7 rfl rfl (a1 rfl (on ?_))))))
   cases hr8
   exact cu ⟨rfl, tv⟩
  ·have hr9 := if_n hb7 hx5
   refine gf hb7 rfl (gf hb7 rfl (pf hb7 rfl rfl (a1 rfl (on ?_))))
   cases hr9
   exact cu ⟨rfl, tv⟩
 ·rintro a w ⟨hS, hA⟩
  refine TG.ap ?_ hS hA
  refine rt_ ?_
  cases hr6
  intro a w hS hA
  refine ret1 hA rfl rfl ?_
  exact ⟨rfl, hS.ext⟩

theorem w78 {M : Prop} {W : World} (s_0 : Bytes) {r : Bool} (hr : m78 s_0 = some r) : Calls Tryz.prog 78 [.string (bs s_0)].toArray W (RetS M W (.bool r)) := by
 unfold m78 at hr
 refine enterG (M := M) Tryz.func78 rfl Tryz.ntmps78 rfl (Hp.le.refl _) ?_
 refine sq (rg (a1 rfl (on (sq ?_))))
 obtain ⟨t17, hx18, hr19⟩ := bd_some hr
 refine jn (fun a w => St M W (hp W) [(hp W)] [] w ∧ Has [] 11 a [(2, .bool t17)]) ?_ ?_
 ·refine rg (m1 rfl (lnS U9 rfl rfl ?_))
  obtain ⟨r20, hx21, hr22⟩ := bd_some hx18
  refine clS C84 rfl rfl rfl rfl (fun w H hH le => w84 (s_0.length : Int) 1 32 hx21) (m1 rfl ?_)
  rcases Bool.eq_false_or_eq_true (r20) with hb23 | hb23
  ·have hr24 := if_p hb23 hr22
   refine gN rfl rfl (hb23) (m1 rfl (gN rfl rfl (hb23) ?_))
   obtain ⟨hk29, hr30⟩ := chk_some hr24
   refine cvB U9 U170 U5 rfl rfl hk29 fun ad25 cap26 K27 hl28 => ?_
   have := hl28.len
   refine gN rfl rfl (hb23) ?_
   obtain ⟨r32, hx33, hr34⟩ := bd_some hr30
   refine clS (v := .bool r32) C104 rfl rfl rfl rfl (fun w H hH le => by
     have hf31 : FnV M Tryz.prog H (.func (.func 105) [].toArray [].toArray) (SF1 (Vi .u8) Value.bool (m105)) := ⟨105, [], [], rfl, C105, fun w_ K_ args_ v_ hK hw hs => by obtain ⟨u0_, x0_, r_, rfl, h0_, hx, rfl⟩ := hs; cases h0_; exact w105  x0_  hx⟩
     exact w104 hH (hl28.mono (Flat.mono _) (le.at 0 rfl)) (right := (m105)) hf31 hx33) ?_
   refine pT rfl rfl (hb23) rfl (a1 rfl (on ?_))
   cases hr34
   intro a w hS hA
   exact ⟨hS.selH [1] rfl, hA.cut ⟨rfl, tv⟩⟩
  ·have hr35 := if_f hb23 hr22
   refine gF rfl rfl (hb23) rfl (gF rfl rfl (hb23) rfl (gF rfl rfl (hb23) rfl (pF rfl rfl (hb23) rfl (a1 rfl (on ?_)))))
   cases hr35
   exact cu ⟨rfl, tv⟩
 ·rintro a w ⟨hS, hA⟩
  refine TG.ap ?_ hS hA
  refine rt_ ?_
  cases hr19
  intro a w hS hA
  refine ret1 hA rfl rfl ?_
  exact ⟨rfl, hS.ext⟩

theorem w72 {M : Prop} {W : World} (n_0 : Int) {r : Bool} (hr : m72 n_0 = some r) : Calls Tryz.prog 72 [.int .i64 n_0].toArray W (RetS M W (.bool r)) := by
 unfold m72 at hr
 refine enterG (M := M) Tryz.func72 rfl Tryz.ntmps72 rfl (Hp.le.refl _) ?_
 refine sq (rg (a1 rfl (on (sq (rg (m1 rfl ?_))))))
 obtain ⟨r1, hx2, hr3⟩ := bd_some hr
 refine clS C84 rfl rfl rfl rfl (fun w H hH le => w84 n_0 0 999999999 hx2) (a1 rfl (on (rt_ ?_)))
 cases hr3
 intro a w hS hA
 refine ret1 hA rfl rfl ?_
 exact ⟨rfl, hS.ext⟩

theorem w82 {M : Prop} {W : World} {cs_n_0 : List Value} (n_0 : Number) (h_n_0 : (Flat encNumber) (hp W) cs_n_0 n_0) {r : Bool} (hr : m82 n_0 = some r) : Calls Tryz.prog 82 [.agg cs_n_0.toArray].toArray W (RetS M W (.bool r)) := by
 obtain rfl := h_n_0
 unfold m82 at hr
 refine enterG (M := M) Tryz.func82 rfl Tryz.ntmps82 rfl (Hp.le.refl _) ?_
 refine sq (rg (bI (cs := [.string (bs n_0.text), .int .i64 n_0.value]) rfl rfl rfl fun q1 K2 hK3 => (a1 rfl (on (sq ?_)))))
 obtain ⟨t13, hx14, hr15⟩ := bd_some hr
 refine jn (fun a w => St M W (hp W) [K2, (hp W)] [] w ∧ Has [] 11 a [(2, .bool t13)]) ?_ ?_
 ·refine rg (fb 0 U123 rfl rfl rfl rfl Z9 (ld G9 rfl rfl ((sS 0 rfl hK3).take 1) rfl ?_))
  obtain ⟨r16, hx17, hr18⟩ := bd_some hx14
  refine clS C78 rfl rfl rfl rfl (fun w H hH le => w78 n_0.text hx17) (m1 rfl ?_)
  rcases Bool.eq_false_or_eq_true (r16) with hb19 | hb19
  ·have hr20 := if_p hb19 hr18
   refine gN rfl rfl (hb19) (fb 1 U123 rfl rfl rfl rfl Z3 (gN rfl rfl (hb19) (ld G3 rfl rfl ((sS 0 rfl hK3).drop 1) rfl (gN rfl rfl (hb19) ?_))))
   obtain ⟨r21, hx22, hr23⟩ := bd_some hr20
   refine clS C72 rfl rfl rfl rfl (fun w H hH le => w72 n_0.value hx22) (pT rfl rfl (hb19) rfl (a1 rfl (on ?_)))
   cases hr23
   exact cu ⟨rfl, tv⟩
  ·have hr24 := if_f hb19 hr18
   refine gF rfl rfl (hb19) rfl (gF rfl rfl (hb19) rfl (gF rfl rfl (hb19) rfl (pF rfl rfl (hb19) rfl (a1 rfl (on ?_)))))
   cases hr24
   exact cu ⟨rfl, tv⟩
 ·rintro a w ⟨hS, hA⟩
  refine TG.ap ?_ hS hA
  refine rt_ ?_
  cases hr15
  intro a w hS hA
  refine ret1 hA rfl rfl ?_
  exact ⟨rfl, hS.ext⟩

theorem w103 {M : Prop} {W : World} {H : Hp} (hH : H.le (hp W)) (x_0 : Bytes) {q_f0_ : Addr} {fv_f0_ : Value} {f0_ : Bytes → Option Bool} (hc_f0_ : CellsAt H q_f0_ [fv_f0_]) (h_f0_ : FnV M Tryz.prog H fv_f0_ (SF1 Vs Value.bool f0_)) {r : Bool} (hr : m103 x_0 f0_ = some r) : Calls Tryz.prog 103 [.string (bs x_0), .pointer (some q_f0_)].toArray W (RetS M W (.bool r)) := by
 have hh_f0_ := h_f0_
 obtain ⟨f_f0_, fi_f0_, ca_f0_, rfl, _, _⟩ := h_f0_
 unfold m103 at hr
 refine enterG (M := M) Tryz.func103 rfl Tryz.ntmps103 rfl hH ?_
 refine sq (rg (a1 rfl (on (sq (rg (ld G134 rfl rfl (sS 0 rfl hc_f0_) rfl (m1 rfl ?_)))))))
 obtain ⟨r1, hx2, hr3⟩ := bd_some hr
 refine clV (v := .bool r1) hh_f0_ 0 rfl rfl rfl rfl (fun H le => ⟨_, x_0, r1, rfl, rfl, hx2, rfl⟩) (nt rfl rfl (a1 rfl (on (rt_ ?_))))
 cases hr3
 intro a w hS hA
 refine ret1 hA rfl rfl ?_
 exact ⟨rfl, hS.ext⟩

theorem w134 {M : Prop} {W : World} {H : Hp} (hH : H.le (hp W)) {ad_s_0 : Option Addr} {cap_s_0 : Nat} {s_0 : List Bytes} (h_s_0 : Sl (Flat encS) 1 H ad_s_0 cap_s_0 s_0) {fv_f_1 : Value} {f_1 : Bytes → Option Bool} (h_f_1 : FnV M Tryz.prog H fv_f_1 (SF1 Vs Value.bool f_1)) {r : Int} (hr : m134 s_0 f_1 = some r) : Calls Tryz.prog 134 [.slice ad_s_0 s_0.length cap_s_0, fv_f_1].toArray W (RetS M W (.int .i64 r)) := by
 have := h_s_0.len
 have hh_f_1 := h_f_1
 obtain ⟨f_f_1, fi_f_1, ca_f_1, rfl, _, _⟩ := h_f_1
 unfold m134 at hr
 refine enterG (M := M) Tryz.func134 rfl Tryz.ntmps134 rfl hH ?_
 refine sq (rg (a1 rfl (on (sq (sq (rg (m1 rfl (lnL U24 rfl rfl (m1 rfl (on ?_))))))))))
 obtain ⟨e19, hl20, hr21⟩ := bd_some hr
 refine jn (fun a w => ∃ t22, e19 = .inl t22 ∧ St M W H [H] [] w ∧ Has [] 19 a []) ?_ ?_
 ·refine bk ?_
  refine lp hl20 (fun s23 a w => St M W H [H] [] w ∧ Has [] 19 a [(0, .slice ad_s_0 s_0.length cap_s_0), (1, .func (.func f_f_1) fi_f_1.toArray ca_f_1.toArray), (7, .int .i64 (s_0.length : Int)), (8, .int .i64 (s23 : Int))]) ?_ ?_
  ·exact cu ⟨rfl, rfl, rfl, rfl, tv⟩
  ·rintro j s23 y26 hr24 hz25 a w ⟨hS, hA⟩
   refine TG.ap ?_ hS hA
   unfold m134_1 at hr24
   refine sq (rg (ltI rfl rfl rfl (on (sq ?_))))
   refine ci rfl (fun hc30 => ?_) (fun hc30 => ?_)
   ·have hr31 := if_p hc30 hr24
    refine sk (sq (bk (sq (rg (m1 rfl (a1 rfl (on (sq (rg (m1 rfl (m1 rfl ?_)))))))))))
    refine m1 rfl ?_
    obtain ⟨x46, hx47, hr48⟩ := bd_some hr31
    obtain ⟨p49, rfl⟩ := h_s_0.adr hx47
    obtain ⟨cs50, hcs51, hq52, hr53⟩ := h_s_0.at hx47
    obtain rfl := hr53
    refine iaP U24 Z9 rfl rfl rfl rfl (lt_of hx47) (ld G9 rfl rfl (sS 0 rfl hq52) rfl ?_)
    obtain ⟨r54, hx55, hr56⟩ := bd_some hr48
    refine clV (v := .bool r54) hh_f_1 0 rfl rfl rfl rfl (fun H le => ⟨_, x46, r54, rfl, rfl, hx55, rfl⟩) (on ?_)
    refine cb rfl (fun hc60 => ?_) (fun hc60 => ?_)
    ·have hr61 := if_p hc60 hr56
     refine sq (rg (m1 rfl (a1 rfl (on (rt_ ?_)))))
     cases hr61
     obtain rfl := Fin.out hz25
     cases hr21
     intro a w hS hA
     refine ret1 hA rfl rfl ?_
     exact ⟨rfl, hS.ext⟩
    ·have hr62 := if_f hc60 hr56
     refine sk (rg (adI rfl rfl rfl (by omega) (m1 rfl (on ?_))))
     cases hr62
     intro a w hS hA
     exact ⟨_, hz25, hS, hA.cut ⟨rfl, rfl, rfl, rfl, tv⟩⟩
   ·have hr63 := if_n hc30 hr24
    refine xt rfl ?_
    cases hr63
    obtain rfl := Fin.out hz25
    intro a w hS hA
    exact ⟨_, rfl, hS, hA.cut tv⟩
 ·rintro a w ⟨t22, rfl, hS, hA⟩
  refine TG.ap ?_ hS hA
  refine sq (rg (a1 rfl (on (rt_ ?_))))
  cases hr21
  intro a w hS hA
  refine ret1 hA rfl rfl ?_
  exact ⟨rfl, hS.ext⟩

theorem w102 {M : Prop} {W : World} {H : Hp} (hH : H.le (hp W)) {ad_s_0 : Option Addr} {cap_s_0 : Nat} {s_0 : List Bytes} (h_s_0 : Sl (Flat encS) 1 H ad_s_0 cap_s_0 s_0) {fv_f_1 : Value} {f_1 : Bytes → Option Bool} (h_f_1 : FnV M Tryz.prog H fv_f_1 (SF1 Vs Value.bool f_1)) {r : Bool} (hr : m102 s_0 f_1 = some r) : Calls Tryz.prog 102 [.slice ad_s_0 s_0.length cap_s_0, fv_f_1].toArray W (RetS M W (.bool r)) := by
 have := h_s_0.len
 have hh_f_1 := h_f_1
 obtain ⟨f_f_1, fi_f_1, ca_f_1, rfl, _, _⟩ := h_f_1
 unfold m102 at hr
 refine enterG (M := M) Tryz.func102 rfl Tryz.ntmps102 rfl hH ?_
 refine sq (rg (a1 rfl (on (sq (rg (m1 rfl (m1 rfl ?_)))))))
 obtain ⟨r1, hx2, hr3⟩ := bd_some hr
 refine clS C134 rfl rfl rfl rfl (fun w H hH le => w134 hH (h_s_0.mono (Flat.mono _) (le.at 0 rfl)) (f_1 := f_1) (hh_f_1.mono (le.at 0 rfl)) hx2) (geI rfl rfl rfl (a1 rfl (on (rt_ ?_))))
 cases hr3
 intro a w hS hA
 refine ret1 hA rfl rfl ?_
 exact ⟨rfl, hS.ext⟩

theorem w77 {M : Prop} {W : World} {H : Hp} (hH : H.le (hp W)) {ad_l_0 : Option Addr} {cap_l_0 : Nat} {l_0 : List Bytes} (h_l_0 : Sl (Flat encS) 1 H ad_l_0 cap_l_0 l_0) {fv_right : Value} {right : Bytes → Option Bool} (h_right : FnV M Tryz.prog H fv_right (SF1 Vs Value.bool right)) {r : Bool} (hr : m77 l_0 right = some r) : Calls Tryz.prog 77 [.slice ad_l_0 l_0.length cap_l_0, fv_right].toArray W (RetS M W (.bool r)) := by
 have := h_l_0.len
 have hh_right := h_right
 obtain ⟨f_right, fi_right, ca_right, rfl, _, _⟩ := h_right
 unfold m77 at hr
 refine enterG (M := M) Tryz.func77 rfl Tryz.ntmps77 rfl hH ?_
 refine sq (rg (bI (cs := [.func (.func f_right) fi_right.toArray ca_right.toArray]) rfl rfl rfl fun q1 K2 hK3 => (a1 rfl (on (sq (rg (m1 rfl (fn rfl rfl rfl ?_))))))))
 obtain ⟨r5, hx6, hr7⟩ := bd_some hr
 refine clS (v := .bool r5) C102 rfl rfl rfl rfl (fun w H hH le => by
   have hf4 : FnV M Tryz.prog H (.func (.func 103) [].toArray [.pointer (some q1)].toArray) (SF1 Vs Value.bool (fun x0_ => m103 x0_ right)) := ⟨103, [], [.pointer (some q1)], rfl, C103, fun w_ K_ args_ v_ hK hw hs => by obtain ⟨u0_, x0_, r_, rfl, h0_, hx, rfl⟩ := hs; cases h0_; exact w103 (H := K_) hw  x0_ (f0_ := right) (hK3.mono ((le.at 0 rfl).trans hK)) (hh_right.mono ((le.at 1 rfl).trans hK)) hx⟩
   exact w102 hH (h_l_0.mono (Flat.mono _) (le.at 1 rfl)) (f_1 := (fun x0_ => m103 x0_ right)) hf4 hx6) ?_
 refine nt rfl rfl (a1 rfl (on (rt_ ?_)))
 cases hr7
 intro a w hS hA
 refine ret1 hA rfl rfl ?_
 exact ⟨rfl, hS.ext⟩

theorem w83 {M : Prop} {W : World} {H : Hp} (hH : H.le (hp W)) {ad_l_0 : Option Addr} {cap_l_0 : Nat} {l_0 : List Bytes} (h_l_0 : Sl (Flat encS) 1 H ad_l_0 cap_l_0 l_0) {r : Bool} (hr : m83 l_0 = some r) : Calls Tryz.prog 83 [.slice ad_l_0 l_0.length cap_l_0].toArray W (RetS M W (.bool r)) := by
 have := h_l_0.len
 unfold m83 at hr
 refine enterG (M := M) Tryz.func83 rfl Tryz.ntmps83 rfl hH ?_
 refine sq (rg (a1 rfl (on (sq ?_))))
 obtain ⟨t11, hx12, hr13⟩ := bd_some hr
 refine jn (fun a w => St M W H [H] [] w ∧ Has [] 10 a [(2, .bool t11)]) ?_ ?_
 ·refine rg (m1 rfl (lnL U24 rfl rfl ?_))
  obtain ⟨r14, hx15, hr16⟩ := bd_some hx12
  refine clS C84 rfl rfl rfl rfl (fun w H hH le => w84 (l_0.length : Int) 1 5 hx15) (m1 rfl ?_)
  rcases Bool.eq_false_or_eq_true (r14) with hb17 | hb17
  ·have hr18 := if_p hb17 hr16
   refine gN rfl rfl (hb17) (m1 rfl (gN rfl rfl (hb17) ?_))
   obtain ⟨r20, hx21, hr22⟩ := bd_some hr18
   refine clS (v := .bool r20) C77 rfl rfl rfl rfl (fun w H hH le => by
     have hf19 : FnV M Tryz.prog H (.func (.func 78) [].toArray [].toArray) (SF1 Vs Value.bool (m78)) := ⟨78, [], [], rfl, C78, fun w_ K_ args_ v_ hK hw hs => by obtain ⟨u0_, x0_, r_, rfl, h0_, hx, rfl⟩ := hs; cases h0_; exact w78  x0_  hx⟩
     exact w77 hH (h_l_0.mono (Flat.mono _) (le.at 0 rfl)) (right := (m78)) hf19 hx21) ?_
   refine pT rfl rfl (hb17) rfl (a1 rfl (on ?_))
   cases hr22
   exact cu ⟨rfl, tv⟩
  ·have hr23 := if_f hb17 hr16
   refine gF rfl rfl (hb17) rfl (gF rfl rfl (hb17) rfl (pF rfl rfl (hb17) rfl (a1 rfl (on ?_))))
   cases hr23
   exact cu ⟨rfl, tv⟩
 ·rintro a w ⟨hS, hA⟩
  refine TG.ap ?_ hS hA
  refine rt_ ?_
  cases hr13
  intro a w hS hA
  refine ret1 hA rfl rfl ?_
  exact ⟨rfl, hS.ext⟩

theorem w110 {M : Prop} {W : World} {H : Hp} (hH : H.le (hp W)) {cs_x_0 : List Value} (x_0 : Number) (h_x_0 : (Flat encNumber) H cs_x_0 x_0) {q_f0_ : Addr} {fv_f0_ : Value} {f0_ : Number → Option Bool} (hc_f0_ : CellsAt H q_f0_ [fv_f0_]) (h_f0_ : FnV M Tryz.prog H fv_f0_ (SF1 (Va encNumber) Value.bool f0_)) {r : Bool} (hr : m110 x_0 f0_ = some r) : Calls Tryz.prog 110 [.agg cs_x_0.toArray, .pointer (some q_f0_)].toArray W (RetS M W (.bool r)) := by
 obtain rfl := h_x_0
 have hh_f0_ := h_f0_
 obtain ⟨f_f0_, fi_f0_, ca_f0_, rfl, _, _⟩ := h_f0_
 unfold m110 at hr
 refine enterG (M := M) Tryz.func110 rfl Tryz.ntmps110 rfl hH ?_
 refine sq (rg (bI (cs := [.string (bs x_0.text), .int .i64 x_0.value]) rfl rfl rfl fun q1 K2 hK3 => (a1 rfl (on (sq (rg (ld G156 rfl rfl (sS 1 rfl hc_f0_) rfl (ldA G123 Z123 rfl rfl (sS 0 rfl hK3) rfl ?_))))))))
 obtain ⟨r4, hx5, hr6⟩ := bd_some hr
 refine clV (v := .bool r4) hh_f0_ 1 rfl rfl rfl rfl (fun H le => ⟨_, x_0, r4, rfl, rfl, hx5, rfl⟩) (nt rfl rfl (a1 rfl (on (rt_ ?_))))
 cases hr6
 intro a w hS hA
 refine ret1 hA rfl rfl ?_
 exact ⟨rfl, hS.ext⟩

theorem w141 {M : Prop} {W : World} {H : Hp} (hH : H.le (hp W)) {ad_s_0 : Option Addr} {cap_s_0 : Nat} {s_0 : List Number} (h_s_0 : Sl (Flat encNumber) 2 H ad_s_0 cap_s_0 s_0) {fv_f_1 : Value} {f_1 : Number → Option Bool} (h_f_1 : FnV M Tryz.prog H fv_f_1 (SF1 (Va encNumber) Value.bool f_1)) {r : Int} (hr : m141 s_0 f_1 = some r) : Calls Tryz.prog 141 [.slice ad_s_0 s_0.length cap_s_0, fv_f_1].toArray W (RetS M W (.int .i64 r)) := by
 have := h_s_0.len
 have hh_f_1 := h_f_1
 obtain ⟨f_f_1, fi_f_1, ca_f_1, rfl, _, _⟩ := h_f_1
 unfold m141 at hr
 refine enterG (M := M) Tryz.func141 rfl Tryz.ntmps141 rfl hH ?_
 refine sq (rg (a1 rfl (on (sq (sq (rg (m1 rfl (lnL U34 rfl rfl (m1 rfl (on ?_))))))))))
 obtain ⟨e19, hl20, hr21⟩ := bd_some hr
 refine jn (fun a w => ∃ t22, e19 = .inl t22 ∧ St M W H [H] [] w ∧ Has [] 19 a []) ?_ ?_
 ·refine bk ?_
  refine lp hl20 (fun s23 a w => St M W H [H] [] w ∧ Has [] 19 a [(0, .slice ad_s_0 s_0.length cap_s_0), (1, .func (.func f_f_1) fi_f_1.toArray ca_f_1.toArray), (7, .int .i64 (s_0.length : Int)), (8, .int .i64 (s23 : Int))]) ?_ ?_
  ·exact cu ⟨rfl, rfl, rfl, rfl, tv⟩
  ·rintro j s23 y26 hr24 hz25 a w ⟨hS, hA⟩
   refine TG.ap ?_ hS hA
   unfold m141_1 at hr24
   refine sq (rg (ltI rfl rfl rfl (on (sq ?_))))
   refine ci rfl (fun hc30 => ?_) (fun hc30 => ?_)
   ·have hr31 := if_p hc30 hr24
    refine sk (sq (bk (sq (rg (m1 rfl (a1 rfl (on (sq (rg (m1 rfl (m1 rfl ?_)))))))))))
    refine m1 rfl ?_
    obtain ⟨x46, hx47, hr48⟩ := bd_some hr31
    obtain ⟨p49, rfl⟩ := h_s_0.adr hx47
    obtain ⟨cs50, hcs51, hq52, hr53⟩ := h_s_0.at hx47
    obtain rfl := hr53
    refine iaP U34 Z123 rfl rfl rfl rfl (lt_of hx47) (ldA G123 Z123 rfl rfl (sS 0 rfl hq52) rfl ?_)
    obtain ⟨r54, hx55, hr56⟩ := bd_some hr48
    refine clV (v := .bool r54) hh_f_1 0 rfl rfl rfl rfl (fun H le => ⟨_, x46, r54, rfl, rfl, hx55, rfl⟩) (on ?_)
    refine cb rfl (fun hc60 => ?_) (fun hc60 => ?_)
    ·have hr61 := if_p hc60 hr56
     refine sq (rg (m1 rfl (a1 rfl (on (rt_ ?_)))))
     cases hr61
     obtain rfl := Fin.out hz25
     cases hr21
     intro a w hS hA
     refine ret1 hA rfl rfl ?_
     exact ⟨rfl, hS.ext⟩
    ·have hr62 := if_f hc60 hr56
     refine sk (rg (adI rfl rfl rfl (by omega) (m1 rfl (on ?_))))
     cases hr62
     intro a w hS hA
     exact ⟨_, hz25, hS, hA.cut ⟨rfl, rfl, rfl, rfl, tv⟩⟩
   ·have hr63 := if_n hc30 hr24
    refine xt rfl ?_
    cases hr63
    obtain rfl := Fin.out hz25
    intro a w hS hA
    exact ⟨_, rfl, hS, hA.cut tv⟩
 ·rintro a w ⟨t22, rfl, hS, hA⟩
  refine TG.ap ?_ hS hA
  refine sq (rg (a1 rfl (on (rt_ ?_))))
  cases hr21
  intro a w hS hA
  refine ret1 hA rfl rfl ?_
  exact ⟨rfl, hS.ext⟩

theorem w109 {M : Prop} {W : World} {H : Hp} (hH : H.le (hp W)) {ad_s_0 : Option Addr} {cap_s_0 : Nat} {s_0 : List Number} (h_s_0 : Sl (Flat encNumber) 2 H ad_s_0 cap_s_0 s_0) {fv_f_1 : Value} {f_1 : Number → Option Bool} (h_f_1 : FnV M Tryz.prog H fv_f_1 (SF1 (Va encNumber) Value.bool f_1)) {r : Bool} (hr : m109 s_0 f_1 = some r) : Calls Tryz.prog 109 [.slice ad_s_0 s_0.length cap_s_0, fv_f_1].toArray W (RetS M W (.bool r)) := by
 have := h_s_0.len
 have hh_f_1 := h_f_1
 obtain ⟨f_f_1, fi_f_1, ca_f_1, rfl, _, _⟩ := h_f_1
 unfold m109 at hr
 refine enterG (M := M) Tryz.func109 rfl Tryz.ntmps109 rfl hH ?_
 refine sq (rg (a1 rfl (on (sq (rg (m1 rfl (m1 rfl ?_)))))))
 obtain ⟨r1, hx2, hr3⟩ := bd_some hr
 refine clS C141 rfl rfl rfl rfl (fun w H hH le => w141 hH (h_s_0.mono (Flat.mono _) (le.at 0 rfl)) (f_1 := f_1) (hh_f_1.mono (le.at 0 rfl)) hx2) (geI rfl rfl rfl (a1 rfl (on (rt_ ?_))))
 cases hr3
 intro a w hS hA
 refine ret1 hA rfl rfl ?_
 exact ⟨rfl, hS.ext⟩

theorem w85 {M : Prop} {W : World} {H : Hp} (hH : H.le (hp W)) {ad_l_0 : Option Addr} {cap_l_0 : Nat} {l_0 : List Number} (h_l_0 : Sl (Flat encNumber) 2 H ad_l_0 cap_l_0 l_0) {fv_right : Value} {right : Number → Option Bool} (h_right : FnV M Tryz.prog H fv_right (SF1 (Va encNumber) Value.bool right)) {r : Bool} (hr : m85 l_0 right = some r) : Calls Tryz.prog 85 [.slice ad_l_0 l_0.length cap_l_0, fv_right].toArray W (RetS M W (.bool r)) := by
 have := h_l_0.len
 have hh_right := h_right
 obtain ⟨f_right, fi_right, ca_right, rfl, _, _⟩ := h_right
 unfold m85 at hr
 refine enterG (M := M) Tryz.func85 rfl Tryz.ntmps85 rfl hH ?_
 refine sq (rg (bI (cs := [.func (.func f_right) fi_right.toArray ca_right.toArray]) rfl rfl rfl fun q1 K2 hK3 => (a1 rfl (on (sq (rg (m1 rfl (fn rfl rfl rfl ?_))))))))
 obtain ⟨r5, hx6, hr7⟩ := bd_some hr
 refine clS (v := .bool r5) C109 rfl rfl rfl rfl (fun w H hH le => by
   have hf4 : FnV M Tryz.prog H (.func (.func 110) [].toArray [.pointer (some q1)].toArray) (SF1 (Va encNumber) Value.bool (fun x0_ => m110 x0_ right)) := ⟨110, [], [.pointer (some q1)], rfl, C110, fun w_ K_ args_ v_ hK hw hs => by obtain ⟨u0_, x0_, r_, rfl, h0_, hx, rfl⟩ := hs; cases h0_; exact w110 (H := K_) hw  x0_ rfl (f0_ := right) (hK3.mono ((le.at 0 rfl).trans hK)) (hh_right.mono ((le.at 1 rfl).trans hK)) hx⟩
   exact w109 hH (h_l_0.mono (Flat.mono _) (le.at 1 rfl)) (f_1 := (fun x0_ => m110 x0_ right)) hf4 hx6) ?_
 refine nt rfl rfl (a1 rfl (on (rt_ ?_)))
 cases hr7
 intro a w hS hA
 refine ret1 hA rfl rfl ?_
 exact ⟨rfl, hS.ext⟩

theorem w101 {M : Prop} {W : World} {H : Hp} (hH : H.le (hp W)) {ad_x_0 : Option Addr} {cap_x_0 : Nat} {x_0 : List Bytes} (h_x_0 : Sl (Flat encS) 1 H ad_x_0 cap_x_0 x_0) {q_f0_ : Addr} {fv_f0_ : Value} {f0_ : (List Bytes) → Option Bool} (hc_f0_ : CellsAt H q_f0_ [fv_f0_]) (h_f0_ : FnV M Tryz.prog H fv_f0_ (SF1 (Vl (Flat encS) 1) Value.bool f0_)) {r : Bool} (hr : m101 x_0 f0_ = some r) : Calls Tryz.prog 101 [.slice ad_x_0 x_0.length cap_x_0, .pointer (some q_f0_)].toArray W (RetS M W (.bool r)) := by
 have := h_x_0.len
 have hh_f0_ := h_f0_
 obtain ⟨f_f0_, fi_f0_, ca_f0_, rfl, _, _⟩ := h_f0_
 unfold m101 at hr
 refine enterG (M := M) Tryz.func101 rfl Tryz.ntmps101 rfl hH ?_
 refine sq (rg (a1 rfl (on (sq (rg (ld G149 rfl rfl (sS 0 rfl hc_f0_) rfl (m1 rfl ?_)))))))
 obtain ⟨r1, hx2, hr3⟩ := bd_some hr
 refine clV (v := .bool r1) hh_f0_ 0 rfl rfl rfl rfl (fun H le => ⟨_, x_0, r1, rfl, ⟨_, _, rfl, (h_x_0.mono (Flat.mono _) (le.at 0 rfl))⟩, hx2, rfl⟩) (nt rfl rfl (a1 rfl (on (rt_ ?_))))
 cases hr3
 intro a w hS hA
 refine ret1 hA rfl rfl ?_
 exact ⟨rfl, hS.ext⟩

theorem w133 {M : Prop} {W : World} {H : Hp} (hH : H.le (hp W)) {ad_s_0 : Option Addr} {cap_s_0 : Nat} {s_0 : List (List Bytes)} (h_s_0 : Sl (RSl (Flat encS) 1) 1 H ad_s_0 cap_s_0 s_0) {fv_f_1 : Value} {f_1 : (List Bytes) → Option Bool} (h_f_1 : FnV M Tryz.prog H fv_f_1 (SF1 (Vl (Flat encS) 1) Value.bool f_1)) {r : Int} (hr : m133 s_0 f_1 = some r) : Calls Tryz.prog 133 [.slice ad_s_0 s_0.length cap_s_0, fv_f_1].toArray W (RetS M W (.int .i64 r)) := by
 have := h_s_0.len
 have hh_f_1 := h_f_1
 obtain ⟨f_f_1, fi_f_1, ca_f_1, rfl, _, _⟩ := h_f_1
 unfold m133 at hr
 refine enterG (M := M) Tryz.func133 rfl Tryz.ntmps133 rfl hH ?_
 refine sq (rg (a1 rfl (on (sq (sq (rg (m1 rfl (lnL U23 rfl rfl (m1 rfl (on ?_))))))))))
 obtain ⟨e23, hl24, hr25⟩ := bd_some hr
 refine jn (fun a w => ∃ t26, e23 = .inl t26 ∧ St M W H [H] [] w ∧ Has [] 19 a []) ?_ ?_
 ·refine bk ?_
  refine lp hl24 (fun s27 a w => St M W H [H] [] w ∧ Has [] 19 a [(0, .slice ad_s_0 s_0.length cap_s_0), (1, .func (.func f_f_1) fi_f_1.toArray ca_f_1.toArray), (7, .int .i64 (s_0.length : Int)), (8, .int .i64 (s27 : Int))]) ?_ ?_
  ·exact cu ⟨rfl, rfl, rfl, rfl, tv⟩
  ·rintro j s27 y30 hr28 hz29 a w ⟨hS, hA⟩
   refine TG.ap ?_ hS hA
   unfold m133_1 at hr28
   refine sq (rg (ltI rfl rfl rfl (on (sq ?_))))
   refine ci rfl (fun hc34 => ?_) (fun hc34 => ?_)
   ·have hr35 := if_p hc34 hr28
    refine sk (sq (bk (sq (rg (m1 rfl (a1 rfl (on (sq (rg (m1 rfl (m1 rfl ?_)))))))))))
    refine m1 rfl ?_
    obtain ⟨x54, hx55, hr56⟩ := bd_some hr35
    obtain ⟨p57, rfl⟩ := h_s_0.adr hx55
    obtain ⟨cs58, hcs59, hq60, hr61⟩ := h_s_0.at hx55
    have hr62 := hr61
    obtain ⟨ad63, cap64, rfl, hl65⟩ := hr61
    have := hl65.len
    refine iaP U23 Z24 rfl rfl rfl rfl (lt_of hx55) (ld G24 rfl rfl (sS 0 rfl hq60) rfl ?_)
    obtain ⟨r66, hx67, hr68⟩ := bd_some hr56
    refine clV (v := .bool r66) hh_f_1 0 rfl rfl rfl rfl (fun H le => ⟨_, x54, r66, rfl, ⟨_, _, rfl, (hl65.mono (Flat.mono _) (le.at 0 rfl))⟩, hx67, rfl⟩) (on ?_)
    refine cb rfl (fun hc72 => ?_) (fun hc72 => ?_)
    ·have hr73 := if_p hc72 hr68
     refine sq (rg (m1 rfl (a1 rfl (on (rt_ ?_)))))
     cases hr73
     obtain rfl := Fin.out hz29
     cases hr25
     intro a w hS hA
     refine ret1 hA rfl rfl ?_
     exact ⟨rfl, hS.ext⟩
    ·have hr74 := if_f hc72 hr68
     refine sk (rg (adI rfl rfl rfl (by omega) (m1 rfl (on ?_))))
     cases hr74
     intro a w hS hA
     exact ⟨_, hz29, hS, hA.cut ⟨rfl, rfl, rfl, rfl, tv⟩⟩
   ·have hr75 := if_n hc34 hr28
    refine xt rfl ?_
    cases hr75
    obtain rfl := Fin.out hz29
    intro a w hS hA
    exact ⟨_, rfl, hS, hA.cut tv⟩
 ·rintro a w ⟨t26, rfl, hS, hA⟩
  refine TG.ap ?_ hS hA
  refine sq (rg (a1 rfl (on (rt_ ?_))))
  cases hr25
  intro a w hS hA
  refine ret1 hA rfl rfl ?_
  exact ⟨rfl, hS.ext⟩

theorem w100 {M : Prop} {W : World} {H : Hp} (hH : H.le (hp W)) {ad_s_0 : Option Addr} {cap_s_0 : Nat} {s_0 : List (List Bytes)} (h_s_0 : Sl (RSl (Flat encS) 1) 1 H ad_s_0 cap_s_0 s_0) {fv_f_1 : Value} {f_1 : (List Bytes) → Option Bool} (h_f_1 : FnV M Tryz.prog H fv_f_1 (SF1 (Vl (Flat encS) 1) Value.bool f_1)) {r : Bool} (hr : m100 s_0 f_1 = some r) : Calls Tryz.prog 100 [.slice ad_s_0 s_0.length cap_s_0, fv_f_1].toArray W (RetS M W (.bool r)) := by
 have := h_s_0.len
 have hh_f_1 := h_f_1
 obtain ⟨f_f_1, fi_f_1, ca_f_1, rfl, _, _⟩ := h_f_1
 unfold m100 at hr
 refine enterG (M := M) Tryz.func100 rfl Tryz.ntmps100 rfl hH ?_
 refine sq (rg (a1 rfl (on (sq (rg (m1 rfl (m1 rfl ?_)))))))
 obtain ⟨r1, hx2, hr3⟩ := bd_some hr
 refine clS C133 rfl rfl rfl rfl (fun w H hH le => w133 hH (h_s_0.mono (RSl.mono (Flat.mono _)) (le.at 0 rfl)) (f_1 := f_1) (hh_f_1.mono (le.at 0 rfl)) hx2) (geI rfl rfl rfl (a1 rfl (on (rt_ ?_))))
 cases hr3
 intro a w hS hA
 refine ret1 hA rfl rfl ?_
 exact ⟨rfl, hS.ext⟩

theorem w74 {M : Prop} {W : World} {H : Hp} (hH : H.le (hp W)) {ad_l_0 : Option Addr} {cap_l_0 : Nat} {l_0 : List (List Bytes)} (h_l_0 : Sl (RSl (Flat encS) 1) 1 H ad_l_0 cap_l_0 l_0) {fv_right : Value} {right : (List Bytes) → Option Bool} (h_right : FnV M Tryz.prog H fv_right (SF1 (Vl (Flat encS) 1) Value.bool right)) {r : Bool} (hr : m74 l_0 right = some r) : Calls Tryz.prog 74 [.slice ad_l_0 l_0.length cap_l_0, fv_right].toArray W (RetS M W (.bool r)) := by
 have := h_l_0.len
 have hh_right := h_right
 obtain ⟨f_right, fi_right, ca_right, rfl, _, _⟩ := h_right
 unfold m74 at hr
 refine enterG (M := M) Tryz.func74 rfl Tryz.ntmps74 rfl hH ?_
 refine sq (rg (bI (cs := [.func (.func f_right) fi_right.toArray ca_right.toArray]) rfl rfl rfl fun q1 K2 hK3 => (a1 rfl (on (sq (rg (m1 rfl (fn rfl rfl rfl ?_))))))))
 obtain ⟨r5, hx6, hr7⟩ := bd_some hr
 refine clS (v := .bool r5) C100 rfl rfl rfl rfl (fun w H hH le => by
   have hf4 : FnV M Tryz.prog H (.func (.func 101) [].toArray [.pointer (some q1)].toArray) (SF1 (Vl (Flat encS) 1) Value.bool (fun x0_ => m101 x0_ right)) := ⟨101, [], [.pointer (some q1)], rfl, C101, fun w_ K_ args_ v_ hK hw hs => by obtain ⟨u0_, x0_, r_, rfl, h0_, hx, rfl⟩ := hs; obtain ⟨_, _, rfl, h0_⟩ := h0_; exact w101 (H := K_) hw  h0_ (f0_ := right) (hK3.mono ((le.at 0 rfl).trans hK)) (hh_right.mono ((le.at 1 rfl).trans hK)) hx⟩
   exact w100 hH (h_l_0.mono (RSl.mono (Flat.mono _)) (le.at 1 rfl)) (f_1 := (fun x0_ => m101 x0_ right)) hf4 hx6) ?_
 refine nt rfl rfl (a1 rfl (on (rt_ ?_)))
 cases hr7
 intro a w hS hA
 refine ret1 hA rfl rfl ?_
 exact ⟨rfl, hS.ext⟩

theorem w111 {M : Prop} {W : World} {H : Hp} (hH : H.le (hp W)) {fv_yield : Value} {yield : Bytes → Mark → Option Bool} (h_yield : FnV M Tryz.prog H fv_yield (SF2 Vs (Va encMark) Value.bool yield)) {q_f0_ : Addr} {cs_f0_ : List Value} (f0_ : Lexicon) (hc_f0_ : CellsAt H q_f0_ cs_f0_) (h_f0_ : (RLexicon) H cs_f0_ f0_) {r : Unit} (hr : m111 yield f0_ = some r) : Calls Tryz.prog 111 [fv_yield, .pointer (some q_f0_)].toArray W (RetS M W (.tuple #[])) := by
 have hh_yield := h_yield
 obtain ⟨f_yield, fi_yield, ca_yield, rfl, _, _⟩ := h_yield
 have hh_f0_ := h_f0_
 obtain ⟨ad1, cap2, ad4, cap5, ad7, cap8, rfl, hl3, hl6, hl9⟩ := h_f0_
 have := hl3.len
 have := hl6.len
 have := hl9.len
 unfold m111 at hr
 refine enterG (M := M) Tryz.func111 rfl Tryz.ntmps111 rfl hH ?_
 refine sq (sq (rg (fb 0 U36 rfl rfl rfl rfl Z34 (ld G34 rfl rfl ((sS 0 rfl hc_f0_).take 1) rfl (lnL U34 rfl rfl (m1 rfl (on ?_)))))))
 obtain ⟨e31, hl32, hr33⟩ := bd_some hr
 refine jn (fun a w => ∃ t34, e31 = .inl t34 ∧ St M W H [H] [] w ∧ Has [] 62 a [(0, .func (.func f_yield) fi_yield.toArray ca_yield.toArray), (1, .pointer (some q_f0_))]) ?_ ?_
 ·refine bk ?_
  refine lp hl32 (fun s35 a w => St M W H [H] [] w ∧ Has [] 62 a [(0, .func (.func f_yield) fi_yield.toArray ca_yield.toArray), (1, .pointer (some q_f0_)), (12, .slice ad1 f0_.numbers.length cap2), (13, .int .i64 (f0_.numbers.length : Int)), (14, .int .i64 (s35 : Int))]) ?_ ?_
  ·exact cu ⟨rfl, rfl, rfl, rfl, rfl, tv⟩
  ·rintro j s35 y38 hr36 hz37 a w ⟨hS, hA⟩
   refine TG.ap ?_ hS hA
   unfold m111_1 at hr36
   refine sq (rg (ltI rfl rfl rfl (on (sq ?_))))
   refine ci rfl (fun hc42 => ?_) (fun hc42 => ?_)
   ·have hr43 := if_p hc42 hr36
    refine sk (sq (bk (sq (rg ?_))))
    obtain ⟨x61, hx62, hr63⟩ := bd_some hr43
    obtain ⟨p64, rfl⟩ := hl3.adr hx62
    obtain ⟨cs65, hcs66, hq67, hr68⟩ := hl3.at hx62
    obtain rfl := hr68
    refine iaP U34 Z123 rfl rfl rfl rfl (lt_of hx62) (ldA G123 Z123 rfl rfl (sS 0 rfl hq67) rfl (va (cs := [.string (bs x61.text), .int .i64 x61.value]) Tryz.zeroValue123 Z123 rfl rfl rfl rfl rfl rfl rfl rfl fun q69 K70 hK71 => (on (sq (rg (m1 rfl (fb 0 U123 rfl rfl rfl rfl Z9 (ld G9 rfl rfl ((sS 0 rfl hK71).take 1) rfl (fb 1 U123 rfl rfl rfl rfl Z3 (ld G3 rfl rfl ((sS 0 rfl hK71).drop 1) rfl (bu (cs := [.int .u8 1, .int .i64 x61.value]) T4.B79 rfl rfl rfl ?_)))))))))))
    obtain ⟨r72, hx73, hr74⟩ := bd_some hr63
    refine clV (v := .bool r72) hh_yield 1 rfl rfl rfl rfl (fun H le => ⟨_, _, x61.text, (⟨1, x61.value⟩ : Mark), r72, rfl, rfl, rfl, hx73, rfl⟩) (nt rfl rfl (on ?_))
    refine cb rfl (fun hc78 => ?_) (fun hc78 => ?_)
    ·replace hc78 := nbt hc78
     have hr79 := if_f hc78 hr74
     refine rt_ ?_
     cases hr79
     obtain rfl := Fin.out hz37
     cases hr33
     intro a w hS hA
     refine ret0 hA rfl ?_
     exact ⟨rfl, hS.ext⟩
    ·replace hc78 := nbf hc78
     have hr80 := if_p hc78 hr74
     refine sk (rg (adI rfl rfl rfl (by omega) (m1 rfl (on ?_))))
     cases hr80
     intro a w hS hA
     exact ⟨_, hz37, hS.selH [1] rfl, hA.cut ⟨rfl, rfl, rfl, rfl, rfl, tv⟩⟩
   ·have hr81 := if_n hc42 hr36
    refine xt rfl ?_
    cases hr81
    obtain rfl := Fin.out hz37
    intro a w hS hA
    exact ⟨_, rfl, hS, hA.cut ⟨rfl, rfl, tv⟩⟩
 ·rintro a w ⟨t34, rfl, hS, hA⟩
  refine TG.ap ?_ hS hA
  refine sq (sq (rg (fb 1 U36 rfl rfl rfl rfl Z23 (ld G23 rfl rfl (((sS 0 rfl hc_f0_).drop 1).take 1) rfl (lnL U23 rfl rfl (m1 rfl (on ?_)))))))
  obtain ⟨e117, hl118, hr119⟩ := bd_some hr33
  refine jn (fun a w => ∃ t120, e117 = .inl t120 ∧ St M W H [H] [] w ∧ Has [] 62 a [(0, .func (.func f_yield) fi_yield.toArray ca_yield.toArray), (1, .pointer (some q_f0_))]) ?_ ?_
  ·refine bk ?_
   refine lp hl118 (fun s121 a w => St M W H [H] [] w ∧ Has [] 62 a [(0, .func (.func f_yield) fi_yield.toArray ca_yield.toArray), (1, .pointer (some q_f0_)), (28, .slice ad4 f0_.names.length cap5), (29, .int .i64 (f0_.names.length : Int)), (30, .int .i64 (s121 : Int))]) ?_ ?_
   ·exact cu ⟨rfl, rfl, rfl, rfl, rfl, tv⟩
   ·rintro j s121 y124 hr122 hz123 a w ⟨hS, hA⟩
    refine TG.ap ?_ hS hA
    unfold m111_2 at hr122
    refine sq (rg (ltI rfl rfl rfl (on (sq ?_))))
    refine ci rfl (fun hc128 => ?_) (fun hc128 => ?_)
    ·have hr129 := if_p hc128 hr122
     refine sk (sq (bk (sq (rg (m1 rfl ?_)))))
     obtain ⟨x161, hx162, hr163⟩ := bd_some hr129
     obtain ⟨p164, rfl⟩ := hl6.adr hx162
     obtain ⟨cs165, hcs166, hq167, hr168⟩ := hl6.at hx162
     have hr169 := hr168
     obtain ⟨ad170, cap171, rfl, hl172⟩ := hr168
     have := hl172.len
     refine iaP U23 Z24 rfl rfl rfl rfl (lt_of hx162) (ld G24 rfl rfl (sS 0 rfl hq167) rfl (a1 rfl (a1 rfl (on (sq (rg (m1 rfl (lnL U24 rfl rfl (m1 rfl (on ?_))))))))))
     obtain ⟨e191, hl192, hr193⟩ := bd_some hr163
     refine jn (fun a w => ∃ t194, e191 = .inl t194 ∧ St M W H [H] [] w ∧ Has [] 62 a [(0, .func (.func f_yield) fi_yield.toArray ca_yield.toArray), (1, .pointer (some q_f0_)), (28, .slice (some p164) f0_.names.length cap5), (29, .int .i64 (f0_.names.length : Int)), (30, .int .i64 (s121 : Int))]) ?_ ?_
     ·refine bk ?_
      refine lp hl192 (fun s195 a w => St M W H [H] [] w ∧ Has [] 62 a [(0, .func (.func f_yield) fi_yield.toArray ca_yield.toArray), (1, .pointer (some q_f0_)), (5, .int .i64 (s121 : Int)), (28, .slice (some p164) f0_.names.length cap5), (29, .int .i64 (f0_.names.length : Int)), (30, .int .i64 (s121 : Int)), (35, .slice ad170 x161.length cap171), (36, .int .i64 (x161.length : Int)), (37, .int .i64 (s195 : Int))]) ?_ ?_
      ·exact cu ⟨rfl, rfl, rfl, rfl, rfl, rfl, rfl, rfl, rfl, tv⟩
      ·rintro j s195 y198 hr196 hz197 a w ⟨hS, hA⟩
       refine TG.ap ?_ hS hA
       unfold m111_3 at hr196
       refine sq (rg (ltI rfl rfl rfl (on (sq ?_))))
       refine ci rfl (fun hc202 => ?_) (fun hc202 => ?_)
       ·have hr203 := if_p hc202 hr196
        refine sk (sq (bk (sq (rg ?_))))
        obtain ⟨x218, hx219, hr220⟩ := bd_some hr203
        obtain ⟨p221, rfl⟩ := hl172.adr hx219
        obtain ⟨cs222, hcs223, hq224, hr225⟩ := hl172.at hx219
        obtain rfl := hr225
        refine iaP U24 Z9 rfl rfl rfl rfl (lt_of hx219) (ld G9 rfl rfl (sS 0 rfl hq224) rfl (a1 rfl (on (sq (rg (m1 rfl (m1 rfl (m1 rfl (bu (cs := [.int .u8 2, .int .i64 (s121 : Int)]) T4.B79 rfl rfl rfl ?_)))))))))
        obtain ⟨r226, hx227, hr228⟩ := bd_some hr220
        refine clV (v := .bool r226) hh_yield 0 rfl rfl rfl rfl (fun H le => ⟨_, _, x218, (⟨2, (s121 : Int)⟩ : Mark), r226, rfl, rfl, rfl, hx227, rfl⟩) (nt rfl rfl (on ?_))
        refine cb rfl (fun hc232 => ?_) (fun hc232 => ?_)
        ·replace hc232 := nbt hc232
         have hr233 := if_f hc232 hr228
         refine rt_ ?_
         cases hr233
         obtain rfl := Fin.out hz197
         cases hr193
         obtain rfl := Fin.out hz123
         cases hr119
         intro a w hS hA
         refine ret0 hA rfl ?_
         exact ⟨rfl, hS.ext⟩
        ·replace hc232 := nbf hc232
         have hr234 := if_p hc232 hr228
         refine sk (rg (adI rfl rfl rfl (by omega) (m1 rfl (on ?_))))
         cases hr234
         intro a w hS hA
         exact ⟨_, hz197, hS, hA.cut ⟨rfl, rfl, rfl, rfl, rfl, rfl, rfl, rfl, rfl, tv⟩⟩
       ·have hr235 := if_n hc202 hr196
        refine xt rfl ?_
        cases hr235
        obtain rfl := Fin.out hz197
        intro a w hS hA
        exact ⟨_, rfl, hS, hA.cut ⟨rfl, rfl, rfl, rfl, rfl, tv⟩⟩
     ·rintro a w ⟨t194, rfl, hS, hA⟩
      refine TG.ap ?_ hS hA
      refine rg (adI rfl rfl rfl (by omega) (m1 rfl (on ?_)))
      cases hr193
      intro a w hS hA
      exact ⟨_, hz123, hS, hA.cut ⟨rfl, rfl, rfl, rfl, rfl, tv⟩⟩
    ·have hr236 := if_n hc128 hr122
     refine xt rfl ?_
     cases hr236
     obtain rfl := Fin.out hz123
     intro a w hS hA
     exact ⟨_, rfl, hS, hA.cut ⟨rfl, rfl, tv⟩⟩
  ·rintro a w ⟨t120, rfl, hS, hA⟩
   refine TG.ap ?_ hS hA
   refine sq (rg (fb 2 U36 rfl rfl rfl rfl Z24 (ld G24 rfl rfl ((sS 0 rfl hc_f0_).drop 2) rfl (lnL U24 rfl rfl (m1 rfl (on ?_))))))
   obtain ⟨e255, hl256, hr257⟩ := bd_some hr119
   refine jn (fun a w => ∃ t258, e255 = .inl t258 ∧ St M W H [H] [] w ∧ Has [] 62 a []) ?_ ?_
   ·refine bk ?_
    refine lp hl256 (fun s259 a w => St M W H [H] [] w ∧ Has [] 62 a [(0, .func (.func f_yield) fi_yield.toArray ca_yield.toArray), (50, .slice ad7 f0_.nots.length cap8), (51, .int .i64 (f0_.nots.length : Int)), (52, .int .i64 (s259 : Int))]) ?_ ?_
    ·exact cu ⟨rfl, rfl, rfl, rfl, tv⟩
    ·rintro j s259 y262 hr260 hz261 a w ⟨hS, hA⟩
     refine TG.ap ?_ hS hA
     unfold m111_4 at hr260
     refine sq (rg (ltI rfl rfl rfl (on (sq ?_))))
     refine ci rfl (fun hc266 => ?_) (fun hc266 => ?_)
     ·have hr267 := if_p hc266 hr260
      refine sk (sq (bk (sq (rg ?_))))
      obtain ⟨x282, hx283, hr284⟩ := bd_some hr267
      obtain ⟨p285, rfl⟩ := hl9.adr hx283
      obtain ⟨cs286, hcs287, hq288, hr289⟩ := hl9.at hx283
      obtain rfl := hr289
      refine iaP U24 Z9 rfl rfl rfl rfl (lt_of hx283) (ld G9 rfl rfl (sS 0 rfl hq288) rfl (a1 rfl (on (sq (rg (m1 rfl (m1 rfl (bu (cs := [.int .u8 3, .int .i64 0]) T4.B79 rfl rfl rfl ?_))))))))
      obtain ⟨r290, hx291, hr292⟩ := bd_some hr284
      refine clV (v := .bool r290) hh_yield 0 rfl rfl rfl rfl (fun H le => ⟨_, _, x282, (⟨3, 0⟩ : Mark), r290, rfl, rfl, rfl, hx291, rfl⟩) (nt rfl rfl (on ?_))
      refine cb rfl (fun hc296 => ?_) (fun hc296 => ?_)
      ·replace hc296 := nbt hc296
       have hr297 := if_f hc296 hr292
       refine rt_ ?_
       cases hr297
       obtain rfl := Fin.out hz261
       cases hr257
       intro a w hS hA
       refine ret0 hA rfl ?_
       exact ⟨rfl, hS.ext⟩
      ·replace hc296 := nbf hc296
       have hr298 := if_p hc296 hr292
       refine sk (rg (adI rfl rfl rfl (by omega) (m1 rfl (on ?_))))
       cases hr298
       intro a w hS hA
       exact ⟨_, hz261, hS, hA.cut ⟨rfl, rfl, rfl, rfl, tv⟩⟩
     ·have hr299 := if_n hc266 hr260
      refine xt rfl ?_
      cases hr299
      obtain rfl := Fin.out hz261
      intro a w hS hA
      exact ⟨_, rfl, hS, hA.cut tv⟩
   ·rintro a w ⟨t258, rfl, hS, hA⟩
    refine TG.ap ?_ hS hA
    cases hr257
    intro a w hS hA
    refine ret0 hA rfl ?_
    exact ⟨rfl, hS.ext⟩

theorem w58 {M : Prop} {W : World} {H : Hp} (hH : H.le (hp W)) {cs_l_0 : List Value} (l_0 : Lexicon) (h_l_0 : (RLexicon) H cs_l_0 l_0) {r : (List (Bytes × Mark)) × Int} (hr : m58 l_0 = some r) : Calls Tryz.prog 58 [.agg cs_l_0.toArray].toArray W (RetK M H W (fun v K => ∃ (mp0 : Value), v = .tuple [mp0, .int .i64 r.2].toArray ∧ Mp keS (fun x => Value.agg (encMark x).toArray) K mp0 r.1)) := by
 have hh_l_0 := h_l_0
 obtain ⟨ad1, cap2, ad4, cap5, ad7, cap8, rfl, hl3, hl6, hl9⟩ := h_l_0
 have := hl3.len
 have := hl6.len
 have := hl9.len
 unfold m58 at hr
 refine enterGM (M := M) Tryz.func58 rfl Tryz.ntmps58 rfl hH ?_
 refine sq (rg (bI (cs := [.slice ad1 l_0.numbers.length cap2, .slice ad4 l_0.names.length cap5, .slice ad7 l_0.nots.length cap8]) rfl rfl rfl fun q10 K11 hK12 => (al 1 (cs := [.map none]) Tryz.zeroValue115 rfl rfl fun b13 => (al 2 (cs := [.int .i64 0]) Tryz.zeroValue31 rfl rfl fun b14 => (on (sq (rg (a1 rfl (on (sq (rg ?_)))))))))))
 refine a1 rfl (on (sq ?_))
 obtain ⟨t21, hx22, hr23⟩ := bd_some hr
 refine jn (fun a w => St M W H [K11, H] [(2, cel b14 31 [.int .i64 0]), (1, cel b13 115 [.map none])] w ∧ Has [] 66 a [(1, .pointer (some q10)), (2, .pointer (some (⟨b13, 0, none⟩))), (3, .pointer (some (⟨b14, 0, none⟩))), (4, .func (.func 82) [].toArray [].toArray), (5, .func (.func 83) [].toArray [].toArray), (6, .bool t21)]) ?_ ?_
 ·refine rg (fb 0 U36 rfl rfl rfl rfl Z34 (ld G34 rfl rfl ((sS 0 rfl hK12).take 1) rfl (lnL U34 rfl rfl (leI rfl rfl rfl (m1 rfl ?_)))))
  by_cases hb24 : (l_0.numbers.length : Int) ≤ 40
  ·have hr25 := if_p hb24 hx22
   refine gt hb24 rfl (fb 1 U36 rfl rfl rfl rfl Z23 (gt hb24 rfl (ld G23 rfl rfl (((sS 0 rfl hK12).drop 1).take 1) rfl (gt hb24 rfl (lnL U23 rfl rfl (gt hb24 rfl (leI rfl rfl rfl (pt hb24 rfl rfl (m1 rfl ?_)))))))))
   by_cases hb26 : (l_0.names.length : Int) ≤ 40
   ·have hr27 := if_p hb26 hr25
    refine gt hb26 rfl (fb 2 U36 rfl rfl rfl rfl Z24 (gt hb26 rfl (ld G24 rfl rfl ((sS 0 rfl hK12).drop 2) rfl (gt hb26 rfl (lnL U24 rfl rfl (gt hb26 rfl (leI rfl rfl rfl (pt hb26 rfl rfl (a1 rfl (on ?_))))))))))
    cases hr27
    exact cu ⟨rfl, rfl, rfl, rfl, rfl, rfl, tv⟩
   ·have hr28 := if_n hb26 hr25
    refine gf hb26 rfl (gf hb26 rfl (gf hb26 rfl (gf hb26 rfl (pf hb26 rfl rfl (a1 rfl (on ?_))))))
    cases hr28
    exact cu ⟨rfl, rfl, rfl, rfl, rfl, rfl, tv⟩
  ·have hr29 := if_n hb24 hx22
   refine gf hb24 rfl (gf hb24 rfl (gf hb24 rfl (gf hb24 rfl (pf hb24 rfl rfl (m1 rfl (gF rfl rfl rfl rfl (gF rfl rfl rfl rfl (gF rfl rfl rfl rfl (gF rfl rfl rfl rfl (pF rfl rfl rfl rfl (a1 rfl ?_)))))))))))
   refine on ?_
   cases hr29
   exact cu ⟨rfl, rfl, rfl, rfl, rfl, rfl, tv⟩
 ·rintro a w ⟨hS, hA⟩
  refine TG.ap ?_ hS hA
  refine sq (sq ?_)
  obtain ⟨t51, hx52, hr53⟩ := bd_some hr23
  refine jn (fun a w => St M W H [K11, H] [(2, cel b14 31 [.int .i64 0]), (1, cel b13 115 [.map none])] w ∧ Has [] 66 a [(1, .pointer (some q10)), (2, .pointer (some (⟨b13, 0, none⟩))), (3, .pointer (some (⟨b14, 0, none⟩))), (49, .bool t51)]) ?_ ?_
  ·refine rg (m1 rfl (nt rfl rfl (m1 rfl ?_)))
   rcases Bool.eq_false_or_eq_true (t21) with hb54 | hb54
   ·have hr55 := if_p hb54 hx52
    refine gN rfl rfl (congrArg not (hb54)) (fb 0 U36 rfl rfl rfl rfl Z34 (gN rfl rfl (congrArg not (hb54)) (ld G34 rfl rfl ((sS 0 rfl hK12).take 1) rfl (gN rfl rfl (congrArg not (hb54)) (m1 rfl (gN rfl rfl (congrArg not (hb54)) ?_))))))
    obtain ⟨r57, hx58, hr59⟩ := bd_some hr55
    refine clS (v := .bool r57) C85 rfl rfl rfl rfl (fun w H hH le => by
      have hf56 : FnV M Tryz.prog H (.func (.func 82) [].toArray [].toArray) (SF1 (Va encNumber) Value.bool (m82)) := ⟨82, [], [], rfl, C82, fun w_ K_ args_ v_ hK hw hs => by obtain ⟨u0_, x0_, r_, rfl, h0_, hx, rfl⟩ := hs; cases h0_; exact w82  x0_ rfl  hx⟩
      exact w85 hH (hl3.mono (Flat.mono _) (le.at 1 rfl)) (right := (m82)) hf56 hx58) ?_
    refine gN rfl rfl (congrArg not (hb54)) (nt rfl rfl (pF rfl rfl (congrArg not (hb54)) rfl (m1 rfl ?_)))
    rcases Bool.eq_false_or_eq_true (r57) with hb60 | hb60
    ·have hr61 := if_p hb60 hr59
     refine gN rfl rfl (congrArg not (hb60)) (fb 1 U36 rfl rfl rfl rfl Z23 (gN rfl rfl (congrArg not (hb60)) (ld G23 rfl rfl (((sS 0 rfl hK12).drop 1).take 1) rfl (gN rfl rfl (congrArg not (hb60)) (m1 rfl (gN rfl rfl (congrArg not (hb60)) ?_))))))
     obtain ⟨r63, hx64, hr65⟩ := bd_some hr61
     refine clS (v := .bool r63) C74 rfl rfl rfl rfl (fun w H hH le => by
       have hf62 : FnV M Tryz.prog H (.func (.func 83) [].toArray [].toArray) (SF1 (Vl (Flat encS) 1) Value.bool (m83)) := ⟨83, [], [], rfl, C83, fun w_ K_ args_ v_ hK hw hs => by obtain ⟨u0_, x0_, r_, rfl, h0_, hx, rfl⟩ := hs; obtain ⟨_, _, rfl, h0_⟩ := h0_; exact w83 (H := K_) hw  h0_  hx⟩
       exact w74 hH (hl6.mono (RSl.mono (Flat.mono _)) (le.at 1 rfl)) (right := (m83)) hf62 hx64) ?_
     refine gN rfl rfl (congrArg not (hb60)) (nt rfl rfl (pF rfl rfl (congrArg not (hb60)) rfl (m1 rfl ?_)))
     rcases Bool.eq_false_or_eq_true (r63) with hb66 | hb66
     ·have hr67 := if_p hb66 hr65
      refine gN rfl rfl (congrArg not (hb66)) (fb 2 U36 rfl rfl rfl rfl Z24 (gN rfl rfl (congrArg not (hb66)) (ld G24 rfl rfl ((sS 0 rfl hK12).drop 2) rfl (gN rfl rfl (congrArg not (hb66)) ?_))))
      obtain ⟨r69, hx70, hr71⟩ := bd_some hr67
      refine clS (v := .bool r69) C77 rfl rfl rfl rfl (fun w H hH le => by
        have hf68 : FnV M Tryz.prog H (.func (.func 78) [].toArray [].toArray) (SF1 Vs Value.bool (m78)) := ⟨78, [], [], rfl, C78, fun w_ K_ args_ v_ hK hw hs => by obtain ⟨u0_, x0_, r_, rfl, h0_, hx, rfl⟩ := hs; cases h0_; exact w78  x0_  hx⟩
        exact w77 hH (hl9.mono (Flat.mono _) (le.at 1 rfl)) (right := (m78)) hf68 hx70) ?_
      refine gN rfl rfl (congrArg not (hb66)) (nt rfl rfl (pF rfl rfl (congrArg not (hb66)) rfl (on ?_)))
      cases hr71
      exact cu ⟨rfl, rfl, rfl, rfl, tv⟩
     ·have hr72 := if_f hb66 hr65
      refine gF rfl rfl (congrArg not (hb66)) rfl (gF rfl rfl (congrArg not (hb66)) rfl (gF rfl rfl (congrArg not (hb66)) rfl (gF rfl rfl (congrArg not (hb66)) rfl (pT rfl rfl (congrArg not (hb66)) rfl (on ?_)))))
      cases hr72
      exact cu ⟨rfl, rfl, rfl, rfl, tv⟩
    ·have hr73 := if_f hb60 hr59
     refine gF rfl rfl (congrArg not (hb60)) rfl (gF rfl rfl (congrArg not (hb60)) rfl (gF rfl rfl (congrArg not (hb60)) rfl (gF rfl rfl (congrArg not (hb60)) rfl (gF rfl rfl (congrArg not (hb60)) rfl (pT rfl rfl (congrArg not (hb60)) rfl (m1 rfl (gF rfl rfl rfl rfl (gF rfl rfl rfl rfl (gF rfl rfl rfl rfl (gF rfl rfl rfl rfl (pT rfl rfl rfl rfl ?_)))))))))))
     refine on ?_
     cases hr73
     exact cu ⟨rfl, rfl, rfl, rfl, tv⟩
   ·have hr74 := if_f hb54 hx52
    refine gF rfl rfl (congrArg not (hb54)) rfl (gF rfl rfl (congrArg not (hb54)) rfl (gF rfl rfl (congrArg not (hb54)) rfl (gF rfl rfl (congrArg not (hb54)) rfl (gF rfl rfl (congrArg not (hb54)) rfl (pT rfl rfl (congrArg not (hb54)) rfl (m1 rfl (gF rfl rfl rfl rfl (gF rfl rfl rfl rfl (gF rfl rfl rfl rfl (gF rfl rfl rfl rfl (gF rfl rfl rfl rfl ?_)))))))))))
    refine pT rfl rfl rfl rfl (m1 rfl (gF rfl rfl rfl rfl (gF rfl rfl rfl rfl (gF rfl rfl rfl rfl (gF rfl rfl rfl rfl (pT rfl rfl rfl rfl (on ?_)))))))
    cases hr74
    exact cu ⟨rfl, rfl, rfl, rfl, tv⟩
  ·rintro a w ⟨hS, hA⟩
   refine TG.ap ?_ hS hA
   refine cb rfl (fun hc78 => ?_) (fun hc78 => ?_)
   ·have hr79 := if_p hc78 hr53
    refine sq (rg (sto 1 (cs := [.map none]) Z115 rfl rfl rfl rfl rfl rfl rfl (sto 2 (cs := [.int .i64 1]) Z31 rfl rfl rfl rfl rfl rfl rfl (on (rt_ ?_)))))
    cases hr79
    refine rtM (rt0 ?_)
    intro a w hS hA
    refine rc2 hA rfl (ResAt.cell rfl (loads1 G115 (cell_at (hS.get (t := 1) rfl)) rfl)) (ResAt.cell rfl (loads1 G31 (cell_at (hS.get (t := 2) rfl)) rfl)) ?_
    exact ⟨⟨_, rfl, Mp.nil⟩, hS.ext⟩
   ·have hr80 := if_f hc78 hr53
    refine sk (sq (rg (mkM 3 keS (fun x => Value.agg (encMark x).toArray) rfl fun b81 => (al 4 (cs := [.map none]) Tryz.zeroValue115 rfl rfl fun b82 => (sto 4 (cs := [.map (some b81)]) Z115 rfl rfl rfl rfl rfl rfl rfl (on (sq (sq (rg (ldA G36 Z36 rfl rfl (sS 0 rfl hK12) rfl (clT C86 Tryz.func86 rfl Tryz.ntmps86 rfl rfl rfl rfl ?_)))))))))))
    refine sq (rg (bI (cs := [.slice ad1 l_0.numbers.length cap2, .slice ad4 l_0.names.length cap5, .slice ad7 l_0.nots.length cap8]) rfl rfl rfl fun q86 K87 hK88 => (a1 rfl (on (sq (rg (fn rfl rfl rfl (a1 rfl (on (rt_ ?_))))))))))
    intro a w hS hA
    refine ret1 hA rfl rfl ?_
    refine ⟨_, rfl, fun a hA => ?_⟩
    refine putK rfl hA hS (on (bk ?_))
    obtain ⟨t608, hx609, hr610⟩ := bd_some hr80
    refine rfO 5 6 C111 Tryz.func111 rfl Tryz.ntmps111 rfl rfl (fun l351 dB352 O354 w => (∃ (t611 : Nat × (List (Bytes × Mark))), t608 = (.inl t611) ∧ St M W H [K87, K11, H] [(5, Own.blk l351 (O354 .done (some .ret))), (6, Own.blk dB352 (.deferred (some []))), (4, cel b82 115 [.map (some b81)]), (3, Own.map' keS (fun x => Value.agg (encMark x).toArray) b81 t611.2), (2, cel b14 31 [.int .i64 (t611.1 : Int)]), (1, cel b13 115 [.map none])] w) ∨ (∃ (t612 : (List (Bytes × Mark))), t608 = (.inr t612) ∧ St M W H [K87, K11, H] [(5, Own.blk l351 (O354 .ready none)), (6, Own.blk dB352 (.deferred (some []))), (4, cel b82 115 [.map (some b81)]), (3, Own.map' keS (fun x => Value.agg (encMark x).toArray) b81 t612), (2, cel b14 31 [.int .i64 0]), (1, cel b13 115 [.map none])] w)) ?_ ?_
    ·intro l351 dB352 O354 tm353 hT355 hO356
     refine sq (sq (rg (fb 0 U36 rfl rfl rfl rfl Z34 (ld G34 rfl rfl ((sS 0 rfl hK88).take 1) rfl (lnL U34 rfl rfl (m1 rfl (on ?_)))))))
     obtain ⟨e671, hl672, hr673⟩ := bd_some hx609
     refine jn (fun a w => ∃ t674, e671 = .inl t674 ∧ St M W H [K87, K11, H] [(5, Own.blk l351 (O354 .ready none)), (6, Own.blk dB352 (.deferred (some []))), (4, cel b82 115 [.map (some b81)]), (3, Own.map' keS (fun x => Value.agg (encMark x).toArray) b81 t674), (2, cel b14 31 [.int .i64 0]), (1, cel b13 115 [.map none])] w ∧ Has [] 62 a [(0, .func (.yield l351) #[] #[]), (1, .pointer (some q86))]) ?_ ?_
     ·refine bk ?_
      refine lp hl672 (fun s675 a w => St M W H [K87, K11, H] [(5, Own.blk l351 (O354 .ready none)), (6, Own.blk dB352 (.deferred (some []))), (4, cel b82 115 [.map (some b81)]), (3, Own.map' keS (fun x => Value.agg (encMark x).toArray) b81 s675.2), (2, cel b14 31 [.int .i64 0]), (1, cel b13 115 [.map none])] w ∧ Has [] 62 a [(0, .func (.yield l351) #[] #[]), (1, .pointer (some q86)), (12, .slice ad1 l_0.numbers.length cap2), (13, .int .i64 (l_0.numbers.length : Int)), (14, .int .i64 (s675.1 : Int))]) ?_ ?_
      ·exact cu ⟨rfl, rfl, rfl, rfl, rfl, tv⟩
      ·rintro j s675 y678 hr676 hz677 a w ⟨hS, hA⟩
       refine TG.ap ?_ hS hA
       unfold m58_1 at hr676
       refine sq (rg (ltI rfl rfl rfl (on (sq ?_))))
       refine ci rfl (fun hc682 => ?_) (fun hc682 => ?_)
       ·have hr683 := if_p hc682 hr676
        refine sk (sq (bk (sq (rg ?_))))
        obtain ⟨x709, hx710, hr711⟩ := bd_some hr683
        obtain ⟨p712, rfl⟩ := hl3.adr hx710
        obtain ⟨cs713, hcs714, hq715, hr716⟩ := hl3.at hx710
        obtain rfl := hr716
        refine iaP U34 Z123 rfl rfl rfl rfl (lt_of hx710) (ldA G123 Z123 rfl rfl (sS 2 rfl hq715) rfl (va (cs := [.string (bs x709.text), .int .i64 x709.value]) Tryz.zeroValue123 Z123 rfl rfl rfl rfl rfl rfl rfl rfl fun q717 K718 hK719 => (on (sq (rg (m1 rfl (fb 0 U123 rfl rfl rfl rfl Z9 (ld G9 rfl rfl ((sS 0 rfl hK719).take 1) rfl (fb 1 U123 rfl rfl rfl rfl Z3 (ld G3 rfl rfl ((sS 0 rfl hK719).drop 1) rfl (bu (cs := [.int .u8 1, .int .i64 x709.value]) T4.B79 rfl rfl rfl ?_)))))))))))
        obtain ⟨t729, hx730, hr731⟩ := bd_some hr711
        refine yl 5 [] (L1 := (54, .agg [.int .u8 1, .int .i64 x709.value].toArray) :: (53, .string (bs x709.text)) :: _) rfl rfl rfl hT355 hO356 rfl rfl rfl (fun v w => (∃ (t732 : Nat), t729 = (.inl t732) ∧ v = .bool false ∧ St M W H [K718, K87, K11, H] [(5, Own.blk l351 (O354 .done (some .ret))), (6, Own.blk dB352 (.deferred (some []))), (4, cel b82 115 [.map (some b81)]), (3, Own.map' keS (fun x => Value.agg (encMark x).toArray) b81 s675.2), (2, cel b14 31 [.int .i64 (t732 : Int)]), (1, cel b13 115 [.map none])] w) ∨ (∃ (t733 : (List (Bytes × Mark))), t729 = (.inr t733) ∧ v = .bool true ∧ St M W H [K718, K87, K11, H] [(5, Own.blk l351 (O354 .ready none)), (6, Own.blk dB352 (.deferred (some []))), (4, cel b82 115 [.map (some b81)]), (3, Own.map' keS (fun x => Value.agg (encMark x).toArray) b81 t733), (2, cel b14 31 [.int .i64 0]), (1, cel b13 115 [.map none])] w)) ?_ ?_
        ·refine sq (rg (a1 rfl (on (rg (va (cs := [.int .u8 1, .int .i64 x709.value]) Tryz.zeroValue79 Z79 rfl rfl rfl rfl rfl rfl rfl rfl fun q734 K735 hK736 => (on (bR 5 hO356 rfl (bk (sq (sq (rg ?_)))))))))))
         refine ld G115 rfl rfl (sO 4 rfl) rfl (m1 rfl (lk2 (ke := keS) (enc := (fun x => Value.agg (encMark x).toArray)) x709.text (z0 := (⟨0, 0⟩ : Mark)) U115 U9 Tryz.zeroValue79 rfl rfl rfl rfl (mO 3 rfl) (m1 rfl (ex rfl rfl rfl (ex rfl rfl rfl (va (cs := [.int .u8 (((lkp s675.2 x709.text).getD (⟨0, 0⟩ : Mark)).kind), .int .i64 (((lkp s675.2 x709.text).getD (⟨0, 0⟩ : Mark)).value)]) Tryz.zeroValue79 Z79 rfl rfl rfl rfl rfl rfl rfl rfl fun q743 K744 hK745 => (a1 rfl (on (sq (rg (m1 rfl ?_)))))))))))
         refine on ?_
         refine cb rfl (fun hc749 => ?_) (fun hc749 => ?_)
         ·have hr750 := if_p hc749 hx730
          refine sq (rg (sto 1 (cs := [.map none]) Z115 rfl rfl rfl rfl rfl rfl rfl (sto 2 (cs := [.int .i64 6]) Z31 rfl rfl rfl rfl rfl rfl rfl (on (rt_ ?_)))))
          cases hr750
          refine eR 5 (some .ret) hO356 rfl fun w hS => ?_
          exact .inl ⟨_, rfl, rfl, hS.selH [2, 3, 4, 5] rfl⟩
         ·have hr751 := if_f hc749 hx730
          refine sk (rg (ld G115 rfl rfl (sO 4 rfl) rfl (m1 rfl (ldA G79 Z79 rfl rfl (sS 1 rfl hK736) rfl (mpU 3 (ke := keS) (enc := (fun x => Value.agg (encMark x).toArray)) x709.text (⟨1, x709.value⟩ : Mark) U115 U9 rfl rfl rfl rfl (on ?_))))))
          cases hr751
          refine eR 5 none hO356 rfl fun w hS => ?_
          exact .inr (⟨_, rfl, rfl, hS.selH [2, 3, 4, 5] rfl⟩)
        ·rintro a w v hA (⟨t732, rfl, rfl, hS⟩ | ⟨t733, rfl, rfl, hS⟩)
         ·refine putK rfl hA hS (nt rfl rfl (on (cT rfl rfl (rt_ ?_))))
          cases hr731
          obtain rfl := Fin.out hz677
          cases hr673
          intro a w hS hA
          refine ret0 hA rfl ?_
          exact ⟨_, rfl, .inl ⟨_, rfl, hS.selH [1, 2, 3] rfl⟩⟩
         ·refine putK rfl hA hS (nt rfl rfl (on (cF rfl rfl (sk (rg (adI rfl rfl rfl (by omega) (m1 rfl (on ?_))))))))
          cases hr731
          intro a w hS hA
          exact ⟨_, hz677, hS.selH [1, 2, 3] rfl, hA.cut ⟨rfl, rfl, rfl, rfl, rfl, tv⟩⟩
       ·have hr752 := if_n hc682 hr676
        refine xt rfl ?_
        cases hr752
        obtain rfl := Fin.out hz677
        intro a w hS hA
        exact ⟨_, rfl, hS, hA.cut ⟨rfl, rfl, tv⟩⟩
     ·rintro a w ⟨t674, rfl, hS, hA⟩
      refine TG.ap ?_ hS hA
      refine sq (sq (rg (fb 1 U36 rfl rfl rfl rfl Z23 (ld G23 rfl rfl (((sS 0 rfl hK88).drop 1).take 1) rfl (lnL U23 rfl rfl (m1 rfl (on ?_)))))))
      obtain ⟨e891, hl892, hr893⟩ := bd_some hr673
      refine jn (fun a w => ∃ t894, e891 = .inl t894 ∧ St M W H [K87, K11, H] [(5, Own.blk l351 (O354 .ready none)), (6, Own.blk dB352 (.deferred (some []))), (4, cel b82 115 [.map (some b81)]), (3, Own.map' keS (fun x => Value.agg (encMark x).toArray) b81 t894), (2, cel b14 31 [.int .i64 0]), (1, cel b13 115 [.map none])] w ∧ Has [] 62 a [(0, .func (.yield l351) #[] #[]), (1, .pointer (some q86))]) ?_ ?_
      ·refine bk ?_
       refine lp hl892 (fun s895 a w => St M W H [K87, K11, H] [(5, Own.blk l351 (O354 .ready none)), (6, Own.blk dB352 (.deferred (some []))), (4, cel b82 115 [.map (some b81)]), (3, Own.map' keS (fun x => Value.agg (encMark x).toArray) b81 s895.2), (2, cel b14 31 [.int .i64 0]), (1, cel b13 115 [.map none])] w ∧ Has [] 62 a [(0, .func (.yield l351) #[] #[]), (1, .pointer (some q86)), (28, .slice ad4 l_0.names.length cap5), (29, .int .i64 (l_0.names.length : Int)), (30, .int .i64 (s895.1 : Int))]) ?_ ?_
       ·exact cu ⟨rfl, rfl, rfl, rfl, rfl, tv⟩
       ·rintro j s895 y898 hr896 hz897 a w ⟨hS, hA⟩
        refine TG.ap ?_ hS hA
        unfold m58_2 at hr896
        refine sq (rg (ltI rfl rfl rfl (on (sq ?_))))
        refine ci rfl (fun hc902 => ?_) (fun hc902 => ?_)
        ·have hr903 := if_p hc902 hr896
         refine sk (sq (bk (sq (rg (m1 rfl ?_)))))
         obtain ⟨x969, hx970, hr971⟩ := bd_some hr903
         obtain ⟨p972, rfl⟩ := hl6.adr hx970
         obtain ⟨cs973, hcs974, hq975, hr976⟩ := hl6.at hx970
         have hr977 := hr976
         obtain ⟨ad978, cap979, rfl, hl980⟩ := hr976
         have := hl980.len
         refine iaP U23 Z24 rfl rfl rfl rfl (lt_of hx970) (ld G24 rfl rfl (sS 2 rfl hq975) rfl (a1 rfl (a1 rfl (on (sq (rg (m1 rfl (lnL U24 rfl rfl (m1 rfl (on ?_))))))))))
         obtain ⟨e1033, hl1034, hr1035⟩ := bd_some hr971
         refine jn (fun a w => ∃ t1036, e1033 = .inl t1036 ∧ St M W H [K87, K11, H] [(5, Own.blk l351 (O354 .ready none)), (6, Own.blk dB352 (.deferred (some []))), (4, cel b82 115 [.map (some b81)]), (3, Own.map' keS (fun x => Value.agg (encMark x).toArray) b81 t1036), (2, cel b14 31 [.int .i64 0]), (1, cel b13 115 [.map none])] w ∧ Has [] 62 a [(0, .func (.yield l351) #[] #[]), (1, .pointer (some q86)), (28, .slice (some p972) l_0.names.length cap5), (29, .int .i64 (l_0.names.length : Int)), (30, .int .i64 (s895.1 : Int))]) ?_ ?_
         ·refine bk ?_
          refine lp hl1034 (fun s1037 a w => St M W H [K87, K11, H] [(5, Own.blk l351 (O354 .ready none)), (6, Own.blk dB352 (.deferred (some []))), (4, cel b82 115 [.map (some b81)]), (3, Own.map' keS (fun x => Value.agg (encMark x).toArray) b81 s1037.2), (2, cel b14 31 [.int .i64 0]), (1, cel b13 115 [.map none])] w ∧ Has [] 62 a [(0, .func (.yield l351) #[] #[]), (1, .pointer (some q86)), (5, .int .i64 (s895.1 : Int)), (28, .slice (some p972) l_0.names.length cap5), (29, .int .i64 (l_0.names.length : Int)), (30, .int .i64 (s895.1 : Int)), (35, .slice ad978 x969.length cap979), (36, .int .i64 (x969.length : Int)), (37, .int .i64 (s1037.1 : Int))]) ?_ ?_
          ·exact cu ⟨rfl, rfl, rfl, rfl, rfl, rfl, rfl, rfl, rfl, tv⟩
          ·rintro j s1037 y1040 hr1038 hz1039 a w ⟨hS, hA⟩
           refine TG.ap ?_ hS hA
           unfold m58_3 at hr1038
           refine sq (rg (ltI rfl rfl rfl (on (sq ?_))))
           refine ci rfl (fun hc1044 => ?_) (fun hc1044 => ?_)
           ·have hr1045 := if_p hc1044 hr1038
            refine sk (sq (bk (sq (rg ?_))))
            obtain ⟨x1068, hx1069, hr1070⟩ := bd_some hr1045
            obtain ⟨p1071, rfl⟩ := hl980.adr hx1069
            obtain ⟨cs1072, hcs1073, hq1074, hr1075⟩ := hl980.at hx1069
            obtain rfl := hr1075
            refine iaP U24 Z9 rfl rfl rfl rfl (lt_of hx1069) (ld G9 rfl rfl (sS 2 rfl hq1074) rfl (a1 rfl (on (sq (rg (m1 rfl (m1 rfl (m1 rfl (bu (cs := [.int .u8 2, .int .i64 (s895.1 : Int)]) T4.B79 rfl rfl rfl ?_)))))))))
            obtain ⟨t1085, hx1086, hr1087⟩ := bd_some hr1070
            refine yl 5 [] (L1 := (54, .agg [.int .u8 2, .int .i64 (s895.1 : Int)].toArray) :: (53, .string (bs x1068)) :: _) rfl rfl rfl hT355 hO356 rfl rfl rfl (fun v w => (∃ (t1088 : Nat), t1085 = (.inl t1088) ∧ v = .bool false ∧ St M W H [K87, K11, H] [(5, Own.blk l351 (O354 .done (some .ret))), (6, Own.blk dB352 (.deferred (some []))), (4, cel b82 115 [.map (some b81)]), (3, Own.map' keS (fun x => Value.agg (encMark x).toArray) b81 s1037.2), (2, cel b14 31 [.int .i64 (t1088 : Int)]), (1, cel b13 115 [.map none])] w) ∨ (∃ (t1089 : (List (Bytes × Mark))), t1085 = (.inr t1089) ∧ v = .bool true ∧ St M W H [K87, K11, H] [(5, Own.blk l351 (O354 .ready none)), (6, Own.blk dB352 (.deferred (some []))), (4, cel b82 115 [.map (some b81)]), (3, Own.map' keS (fun x => Value.agg (encMark x).toArray) b81 t1089), (2, cel b14 31 [.int .i64 0]), (1, cel b13 115 [.map none])] w)) ?_ ?_
            ·refine sq (rg (a1 rfl (on (rg (va (cs := [.int .u8 2, .int .i64 (s895.1 : Int)]) Tryz.zeroValue79 Z79 rfl rfl rfl rfl rfl rfl rfl rfl fun q1090 K1091 hK1092 => (on (bR 5 hO356 rfl (bk (sq (sq (rg ?_)))))))))))
             refine ld G115 rfl rfl (sO 4 rfl) rfl (m1 rfl (lk2 (ke := keS) (enc := (fun x => Value.agg (encMark x).toArray)) x1068 (z0 := (⟨0, 0⟩ : Mark)) U115 U9 Tryz.zeroValue79 rfl rfl rfl rfl (mO 3 rfl) (m1 rfl (ex rfl rfl rfl (ex rfl rfl rfl (va (cs := [.int .u8 (((lkp s1037.2 x1068).getD (⟨0, 0⟩ : Mark)).kind), .int .i64 (((lkp s1037.2 x1068).getD (⟨0, 0⟩ : Mark)).value)]) Tryz.zeroValue79 Z79 rfl rfl rfl rfl rfl rfl rfl rfl fun q1099 K1100 hK1101 => (a1 rfl (on (sq (rg (m1 rfl ?_)))))))))))
             refine on ?_
             refine cb rfl (fun hc1105 => ?_) (fun hc1105 => ?_)
             ·have hr1106 := if_p hc1105 hx1086
              refine sq (rg (sto 1 (cs := [.map none]) Z115 rfl rfl rfl rfl rfl rfl rfl (sto 2 (cs := [.int .i64 6]) Z31 rfl rfl rfl rfl rfl rfl rfl (on (rt_ ?_)))))
              cases hr1106
              refine eR 5 (some .ret) hO356 rfl fun w hS => ?_
              exact .inl ⟨_, rfl, rfl, hS.selH [2, 3, 4] rfl⟩
             ·have hr1107 := if_f hc1105 hx1086
              refine sk (rg (ld G115 rfl rfl (sO 4 rfl) rfl (m1 rfl (ldA G79 Z79 rfl rfl (sS 1 rfl hK1092) rfl (mpU 3 (ke := keS) (enc := (fun x => Value.agg (encMark x).toArray)) x1068 (⟨2, (s895.1 : Int)⟩ : Mark) U115 U9 rfl rfl rfl rfl (on ?_))))))
              cases hr1107
              refine eR 5 none hO356 rfl fun w hS => ?_
              exact .inr (⟨_, rfl, rfl, hS.selH [2, 3, 4] rfl⟩)
            ·rintro a w v hA (⟨t1088, rfl, rfl, hS⟩ | ⟨t1089, rfl, rfl, hS⟩)
             ·refine putK rfl hA hS (nt rfl rfl (on (cT rfl rfl (rt_ ?_))))
              cases hr1087
              obtain rfl := Fin.out hz1039
              cases hr1035
              obtain rfl := Fin.out hz897
              cases hr893
              intro a w hS hA
              refine ret0 hA rfl ?_
              exact ⟨_, rfl, .inl ⟨_, rfl, hS⟩⟩
             ·refine putK rfl hA hS (nt rfl rfl (on (cF rfl rfl (sk (rg (adI rfl rfl rfl (by omega) (m1 rfl (on ?_))))))))
              cases hr1087
              intro a w hS hA
              exact ⟨_, hz1039, hS, hA.cut ⟨rfl, rfl, rfl, rfl, rfl, rfl, rfl, rfl, rfl, tv⟩⟩
           ·have hr1108 := if_n hc1044 hr1038
            refine xt rfl ?_
            cases hr1108
            obtain rfl := Fin.out hz1039
            intro a w hS hA
            exact ⟨_, rfl, hS, hA.cut ⟨rfl, rfl, rfl, rfl, rfl, tv⟩⟩
         ·rintro a w ⟨t1036, rfl, hS, hA⟩
          refine TG.ap ?_ hS hA
          refine rg (adI rfl rfl rfl (by omega) (m1 rfl (on ?_)))
          cases hr1035
          intro a w hS hA
          exact ⟨_, hz897, hS, hA.cut ⟨rfl, rfl, rfl, rfl, rfl, tv⟩⟩
        ·have hr1109 := if_n hc902 hr896
         refine xt rfl ?_
         cases hr1109
         obtain rfl := Fin.out hz897
         intro a w hS hA
         exact ⟨_, rfl, hS, hA.cut ⟨rfl, rfl, tv⟩⟩
      ·rintro a w ⟨t894, rfl, hS, hA⟩
       refine TG.ap ?_ hS hA
       refine sq (rg (fb 2 U36 rfl rfl rfl rfl Z24 (ld G24 rfl rfl ((sS 0 rfl hK88).drop 2) rfl (lnL U24 rfl rfl (m1 rfl (on ?_))))))
       obtain ⟨e1162, hl1163, hr1164⟩ := bd_some hr893
       refine jn (fun a w => ∃ t1165, e1162 = .inl t1165 ∧ St M W H [K87, K11, H] [(5, Own.blk l351 (O354 .ready none)), (6, Own.blk dB352 (.deferred (some []))), (4, cel b82 115 [.map (some b81)]), (3, Own.map' keS (fun x => Value.agg (encMark x).toArray) b81 t1165), (2, cel b14 31 [.int .i64 0]), (1, cel b13 115 [.map none])] w ∧ Has [] 62 a []) ?_ ?_
       ·refine bk ?_
        refine lp hl1163 (fun s1166 a w => St M W H [K87, K11, H] [(5, Own.blk l351 (O354 .ready none)), (6, Own.blk dB352 (.deferred (some []))), (4, cel b82 115 [.map (some b81)]), (3, Own.map' keS (fun x => Value.agg (encMark x).toArray) b81 s1166.2), (2, cel b14 31 [.int .i64 0]), (1, cel b13 115 [.map none])] w ∧ Has [] 62 a [(0, .func (.yield l351) #[] #[]), (50, .slice ad7 l_0.nots.length cap8), (51, .int .i64 (l_0.nots.length : Int)), (52, .int .i64 (s1166.1 : Int))]) ?_ ?_
        ·exact cu ⟨rfl, rfl, rfl, rfl, tv⟩
        ·rintro j s1166 y1169 hr1167 hz1168 a w ⟨hS, hA⟩
         refine TG.ap ?_ hS hA
         unfold m58_4 at hr1167
         refine sq (rg (ltI rfl rfl rfl (on (sq ?_))))
         refine ci rfl (fun hc1173 => ?_) (fun hc1173 => ?_)
         ·have hr1174 := if_p hc1173 hr1167
          refine sk (sq (bk (sq (rg ?_))))
          obtain ⟨x1197, hx1198, hr1199⟩ := bd_some hr1174
          obtain ⟨p1200, rfl⟩ := hl9.adr hx1198
          obtain ⟨cs1201, hcs1202, hq1203, hr1204⟩ := hl9.at hx1198
          obtain rfl := hr1204
          refine iaP U24 Z9 rfl rfl rfl rfl (lt_of hx1198) (ld G9 rfl rfl (sS 2 rfl hq1203) rfl (a1 rfl (on (sq (rg (m1 rfl (m1 rfl (bu (cs := [.int .u8 3, .int .i64 0]) T4.B79 rfl rfl rfl ?_))))))))
          obtain ⟨t1214, hx1215, hr1216⟩ := bd_some hr1199
          refine yl 5 [] (L1 := (54, .agg [.int .u8 3, .int .i64 0].toArray) :: (53, .string (bs x1197)) :: _) rfl rfl rfl hT355 hO356 rfl rfl rfl (fun v w => (∃ (t1217 : Nat), t1214 = (.inl t1217) ∧ v = .bool false ∧ St M W H [K87, K11, H] [(5, Own.blk l351 (O354 .done (some .ret))), (6, Own.blk dB352 (.deferred (some []))), (4, cel b82 115 [.map (some b81)]), (3, Own.map' keS (fun x => Value.agg (encMark x).toArray) b81 s1166.2), (2, cel b14 31 [.int .i64 (t1217 : Int)]), (1, cel b13 115 [.map none])] w) ∨ (∃ (t1218 : (List (Bytes × Mark))), t1214 = (.inr t1218) ∧ v = .bool true ∧ St M W H [K87, K11, H] [(5, Own.blk l351 (O354 .ready none)), (6, Own.blk dB352 (.deferred (some []))), (4, cel b82 115 [.map (some b81)]), (3, Own.map' keS (fun x => Value.agg (encMark x).toArray) b81 t1218), (2, cel b14 31 [.int .i64 0]), (1, cel b13 115 [.map none])] w)) ?_ ?_
          ·refine sq (rg (a1 rfl (on (rg (va (cs := [.int .u8 3, .int .i64 0]) Tryz.zeroValue79 Z79 rfl rfl rfl rfl rfl rfl rfl rfl fun q1219 K1220 hK1221 => (on (bR 5 hO356 rfl (bk (sq (sq (rg ?_)))))))))))
           refine ld G115 rfl rfl (sO 4 rfl) rfl (m1 rfl (lk2 (ke := keS) (enc := (fun x => Value.agg (encMark x).toArray)) x1197 (z0 := (⟨0, 0⟩ : Mark)) U115 U9 Tryz.zeroValue79 rfl rfl rfl rfl (mO 3 rfl) (m1 rfl (ex rfl rfl rfl (ex rfl rfl rfl (va (cs := [.int .u8 (((lkp s1166.2 x1197).getD (⟨0, 0⟩ : Mark)).kind), .int .i64 (((lkp s1166.2 x1197).getD (⟨0, 0⟩ : Mark)).value)]) Tryz.zeroValue79 Z79 rfl rfl rfl rfl rfl rfl rfl rfl fun q1228 K1229 hK1230 => (a1 rfl (on (sq (rg (m1 rfl ?_)))))))))))
           refine on ?_
           refine cb rfl (fun hc1234 => ?_) (fun hc1234 => ?_)
           ·have hr1235 := if_p hc1234 hx1215
            refine sq (rg (sto 1 (cs := [.map none]) Z115 rfl rfl rfl rfl rfl rfl rfl (sto 2 (cs := [.int .i64 6]) Z31 rfl rfl rfl rfl rfl rfl rfl (on (rt_ ?_)))))
            cases hr1235
            refine eR 5 (some .ret) hO356 rfl fun w hS => ?_
            exact .inl ⟨_, rfl, rfl, hS.selH [2, 3, 4] rfl⟩
           ·have hr1236 := if_f hc1234 hx1215
            refine sk (rg (ld G115 rfl rfl (sO 4 rfl) rfl (m1 rfl (ldA G79 Z79 rfl rfl (sS 1 rfl hK1221) rfl (mpU 3 (ke := keS) (enc := (fun x => Value.agg (encMark x).toArray)) x1197 (⟨3, 0⟩ : Mark) U115 U9 rfl rfl rfl rfl (on ?_))))))
            cases hr1236
            refine eR 5 none hO356 rfl fun w hS => ?_
            exact .inr (⟨_, rfl, rfl, hS.selH [2, 3, 4] rfl⟩)
          ·rintro a w v hA (⟨t1217, rfl, rfl, hS⟩ | ⟨t1218, rfl, rfl, hS⟩)
           ·refine putK rfl hA hS (nt rfl rfl (on (cT rfl rfl (rt_ ?_))))
            cases hr1216
            obtain rfl := Fin.out hz1168
            cases hr1164
            intro a w hS hA
            refine ret0 hA rfl ?_
            exact ⟨_, rfl, .inl ⟨_, rfl, hS⟩⟩
           ·refine putK rfl hA hS (nt rfl rfl (on (cF rfl rfl (sk (rg (adI rfl rfl rfl (by omega) (m1 rfl (on ?_))))))))
            cases hr1216
            intro a w hS hA
            exact ⟨_, hz1168, hS, hA.cut ⟨rfl, rfl, rfl, rfl, tv⟩⟩
         ·have hr1237 := if_n hc1173 hr1167
          refine xt rfl ?_
          cases hr1237
          obtain rfl := Fin.out hz1168
          intro a w hS hA
          exact ⟨_, rfl, hS, hA.cut tv⟩
       ·rintro a w ⟨t1165, rfl, hS, hA⟩
        refine TG.ap ?_ hS hA
        cases hr1164
        intro a w hS hA
        refine ret0 hA rfl ?_
        exact ⟨_, rfl, .inr (⟨_, rfl, hS⟩)⟩
    ·rintro l351 dB352 O354 tm353 a w hO356 hA (⟨t611, rfl, hS⟩ | ⟨t612, rfl, hS⟩)
     ·refine TG.ap ?_ hS hA
      refine elC 5 hO356 rfl (rt_ ?_)
      cases hr610
      refine rtM (rtT 6 rfl (rt0 ?_))
      intro a w hS hA
      refine rc2 hA rfl (ResAt.cell rfl (loads1 G115 (cell_at (hS.get (t := 1) rfl)) rfl)) (ResAt.cell rfl (loads1 G31 (cell_at (hS.get (t := 2) rfl)) rfl)) ?_
      exact ⟨⟨_, rfl, Mp.nil⟩, hS.ext⟩
     ·refine TG.ap ?_ hS hA
      refine elN 5 hO356 rfl (sq (rg (ld G115 rfl rfl (sO 4 rfl) rfl (sto 1 (cs := [.map (some b81)]) Z115 rfl rfl rfl rfl rfl rfl rfl (sto 2 (cs := [.int .i64 0]) Z31 rfl rfl rfl rfl rfl rfl rfl (on (rt_ ?_)))))))
      cases hr610
      refine rtM (rtT 6 rfl (rt0 ?_))
      intro a w hS hA
      refine rc2 hA rfl (ResAt.cell rfl (loads1 G115 (cell_at (hS.get (t := 1) rfl)) rfl)) (ResAt.cell rfl (loads1 G31 (cell_at (hS.get (t := 2) rfl)) rfl)) ?_
      exact ⟨⟨_, rfl, (hS.mapOut 3 rfl)⟩, hS.ext⟩

theorem w75 {M : Prop} {W : World} {H : Hp} (hH : H.le (hp W)) {ad_l_0 : Option Addr} {cap_l_0 : Nat} {l_0 : List Bytes} (h_l_0 : Sl (Flat encS) 1 H ad_l_0 cap_l_0 l_0) {r : Bool} (hr : m75 l_0 = some r) : Calls Tryz.prog 75 [.slice ad_l_0 l_0.length cap_l_0].toArray W (RetS M W (.bool r)) := by
 have := h_l_0.len
 unfold m75 at hr
 refine enterG (M := M) Tryz.func75 rfl Tryz.ntmps75 rfl hH ?_
 refine sq (rg (a1 rfl (on (sq (rg (m1 rfl (lnL U24 rfl rfl (leI rfl rfl rfl (a1 rfl (on (rt_ ?_)))))))))))
 obtain rfl := sj hr
 intro a w hS hA
 refine ret1 hA rfl rfl ?_
 exact ⟨rfl, hS.ext⟩

theorem w76 {M : Prop} {W : World} {H : Hp} (hH : H.le (hp W)) {ad_l_0 : Option Addr} {cap_l_0 : Nat} {l_0 : List Bytes} (h_l_0 : Sl (Flat encS) 1 H ad_l_0 cap_l_0 l_0) {r : Bool} (hr : m76 l_0 = some r) : Calls Tryz.prog 76 [.slice ad_l_0 l_0.length cap_l_0].toArray W (RetS M W (.bool r)) := by
 have := h_l_0.len
 unfold m76 at hr
 refine enterG (M := M) Tryz.func76 rfl Tryz.ntmps76 rfl hH ?_
 refine sq (rg (a1 rfl (on (sq (rg (m1 rfl ?_))))))
 obtain ⟨r2, hx3, hr4⟩ := bd_some hr
 refine clS (v := .bool r2) C77 rfl rfl rfl rfl (fun w H hH le => by
   have hf1 : FnV M Tryz.prog H (.func (.func 78) [].toArray [].toArray) (SF1 Vs Value.bool (m78)) := ⟨78, [], [], rfl, C78, fun w_ K_ args_ v_ hK hw hs => by obtain ⟨u0_, x0_, r_, rfl, h0_, hx, rfl⟩ := hs; cases h0_; exact w78  x0_  hx⟩
   exact w77 hH (h_l_0.mono (Flat.mono _) (le.at 0 rfl)) (right := (m78)) hf1 hx3) ?_
 refine a1 rfl (on (rt_ ?_))
 cases hr4
 intro a w hS hA
 refine ret1 hA rfl rfl ?_
 exact ⟨rfl, hS.ext⟩

theorem w52 {M : Prop} {W : World} {H : Hp} (hH : H.le (hp W)) {ad_lists : Option Addr} {cap_lists : Nat} {lists : List (List Bytes)} (h_lists : Sl (RSl (Flat encS) 1) 1 H ad_lists cap_lists lists) {r : Int} (hr : m52 lists = some r) : Calls Tryz.prog 52 [.slice ad_lists lists.length cap_lists].toArray W (RetS M W (.int .i64 r)) := by
 have := h_lists.len
 unfold m52 at hr
 refine enterG (M := M) Tryz.func52 rfl Tryz.ntmps52 rfl hH ?_
 refine sq (rg (a1 rfl (on (sq (bk (sq (rg (m1 rfl ?_))))))))
 obtain ⟨r16, hx17, hr18⟩ := bd_some hr
 refine clS (v := .bool r16) C74 rfl rfl rfl rfl (fun w H hH le => by
   have hf15 : FnV M Tryz.prog H (.func (.func 75) [].toArray [].toArray) (SF1 (Vl (Flat encS) 1) Value.bool (m75)) := ⟨75, [], [], rfl, C75, fun w_ K_ args_ v_ hK hw hs => by obtain ⟨u0_, x0_, r_, rfl, h0_, hx, rfl⟩ := hs; obtain ⟨_, _, rfl, h0_⟩ := h0_; exact w75 (H := K_) hw  h0_  hx⟩
   exact w74 hH (h_lists.mono (RSl.mono (Flat.mono _)) (le.at 0 rfl)) (right := (m75)) hf15 hx17) ?_
 refine nt rfl rfl (a1 rfl (on ?_))
 refine cb rfl (fun hc29 => ?_) (fun hc29 => ?_)
 ·replace hc29 := nbt hc29
  have hr30 := if_f hc29 hr18
  refine sq (rg (a1 rfl (on (rt_ ?_))))
  cases hr30
  intro a w hS hA
  refine ret1 hA rfl rfl ?_
  exact ⟨rfl, hS.ext⟩
 ·replace hc29 := nbf hc29
  have hr31 := if_p hc29 hr18
  refine sq (rg (m1 rfl ?_))
  obtain ⟨r33, hx34, hr35⟩ := bd_some hr31
  refine clS (v := .bool r33) C74 rfl rfl rfl rfl (fun w H hH le => by
    have hf32 : FnV M Tryz.prog H (.func (.func 76) [].toArray [].toArray) (SF1 (Vl (Flat encS) 1) Value.bool (m76)) := ⟨76, [], [], rfl, C76, fun w_ K_ args_ v_ hK hw hs => by obtain ⟨u0_, x0_, r_, rfl, h0_, hx, rfl⟩ := hs; obtain ⟨_, _, rfl, h0_⟩ := h0_; exact w76 (H := K_) hw  h0_  hx⟩
    exact w74 hH (h_lists.mono (RSl.mono (Flat.mono _)) (le.at 0 rfl)) (right := (m76)) hf32 hx34) ?_
  refine nt rfl rfl (a1 rfl (on ?_))
  refine cb rfl (fun hc39 => ?_) (fun hc39 => ?_)
  ·replace hc39 := nbt hc39
   have hr40 := if_f hc39 hr35
   refine sq (rg (a1 rfl (on (rt_ ?_))))
   cases hr40
   intro a w hS hA
   refine ret1 hA rfl rfl ?_
   exact ⟨rfl, hS.ext⟩
  ·replace hc39 := nbf hc39
   have hr41 := if_p hc39 hr35
   refine sk (sq (rg (a1 rfl (on (rt_ ?_)))))
   cases hr41
   intro a w hS hA
   refine ret1 hA rfl rfl ?_
   exact ⟨rfl, hS.ext⟩

theorem w80 {M : Prop} {W : World} {H : Hp} (hH : H.le (hp W)) (hg : Gv M H) {mp_m_0 : Value} {m_0 : List (Bytes × Mark)} (h_m_0 : Mp keS (fun x => Value.agg (encMark x).toArray) H mp_m_0 m_0) (s_1 : Bytes) {r : Mark × Bool} (hr : m80 m_0 s_1 = some r) : Calls Tryz.prog 80 [mp_m_0, .string (bs s_1)].toArray W (RetS M W (.tuple [.agg (encMark r.1).toArray, .bool r.2].toArray)) := by
 unfold m80 at hr
 refine enterG (M := M) Tryz.func80 rfl Tryz.ntmps80 rfl hH ?_
 refine sq (rg (al 1 (cs := [.int .u8 0, .int .i64 0]) Tryz.zeroValue79 rfl rfl fun b1 => (a1 rfl (on (sq (sq (rg (m1 rfl (m1 rfl (lk2 (ke := keS) (enc := (fun x => Value.agg (encMark x).toArray)) s_1 (z0 := (⟨0, 0⟩ : Mark)) U115 U9 Tryz.zeroValue79 rfl rfl rfl rfl (mS 0 rfl h_m_0) (m1 rfl ?_)))))))))))
 refine ex rfl rfl rfl (ex rfl rfl rfl (va (cs := [.int .u8 (((lkp m_0 s_1).getD (⟨0, 0⟩ : Mark)).kind), .int .i64 (((lkp m_0 s_1).getD (⟨0, 0⟩ : Mark)).value)]) Tryz.zeroValue79 Z79 rfl rfl rfl rfl rfl rfl rfl rfl fun q2 K3 hK4 => (a1 rfl (on (sq (rg (m1 rfl (on ?_))))))))
 refine cb rfl (fun hc8 => ?_) (fun hc8 => ?_)
 ·have hr9 := if_p hc8 hr
  refine sq (rg (ldA G79 Z79 rfl rfl (sS 0 rfl hK4) rfl (sto 1 (cs := [.int .u8 (((lkp m_0 s_1).getD (⟨0, 0⟩ : Mark)).kind), .int .i64 (((lkp m_0 s_1).getD (⟨0, 0⟩ : Mark)).value)]) Z79 rfl rfl rfl rfl rfl rfl rfl (a1 rfl (on (rt_ ?_))))))
  cases hr9
  intro a w hS hA
  refine rc2 hA rfl (ResAt.cell rfl (loadsA G79 Z79 (cell_at (hS.get (t := 1) rfl)) rfl)) (ResAt.tmp rfl) ?_
  exact ⟨rfl, hS.ext⟩
 ·have hr10 := if_f hc8 hr
  refine sk (sq (rg (m1 rfl ?_)))
  obtain ⟨r11, hx12, hr13⟩ := bd_some hr10
  refine clK C107 rfl rfl rfl rfl (fun w H hH le => w107 hH (hg.mono (le.at 1 rfl)) s_1 hx12) ?_
  rintro v_ K14 ⟨er15, rfl, he16⟩
  refine m1 rfl (ex rfl rfl rfl (ex rfl rfl rfl (a1 rfl (a1 rfl (on (sq (sq ?_)))))))
  obtain ⟨t29, hx30, hr31⟩ := bd_some hr13
  refine jn (fun a w => St M W H [K14, K3, H] [(1, cel b1 79 [.int .u8 0, .int .i64 0])] w ∧ Has [] 39 a [(4, .pointer (some (⟨b1, 0, none⟩))), (8, .int .i64 r11.1), (35, .bool t29)]) ?_ ?_
  ·refine rg (m1 rfl (neE U174 rfl rfl he16 (m1 rfl ?_)))
   rcases Bool.eq_false_or_eq_true (r11.2) with hb32 | hb32
   ·have hr33 := if_p hb32 hx30
    refine gF rfl rfl (hb32) rfl (gF rfl rfl (hb32) rfl (gF rfl rfl (hb32) rfl (pT rfl rfl (hb32) rfl (m1 rfl (gF rfl rfl rfl rfl (gF rfl rfl rfl rfl (gF rfl rfl rfl rfl (gF rfl rfl rfl rfl (pT rfl rfl rfl rfl (on ?_))))))))))
    cases hr33
    exact cu ⟨rfl, rfl, rfl, tv⟩
   ·have hr34 := if_f hb32 hx30
    refine gN rfl rfl (hb32) (m1 rfl (gN rfl rfl (hb32) ?_))
    obtain ⟨r35, hx36, hr37⟩ := bd_some hr34
    refine clS C72 rfl rfl rfl rfl (fun w H hH le => w72 r11.1 hx36) (gN rfl rfl (hb32) (nt rfl rfl (pF rfl rfl (hb32) rfl (m1 rfl ?_))))
    rcases Bool.eq_false_or_eq_true (r35) with hb38 | hb38
    ·have hr39 := if_p hb38 hr37
     refine gN rfl rfl (congrArg not (hb38)) (m1 rfl (gN rfl rfl (congrArg not (hb38)) ?_))
     obtain ⟨r40, hx41, hr42⟩ := bd_some hr39
     refine clS C108 rfl rfl rfl rfl (fun w H hH le => w108 hH (hg.mono (le.at 2 rfl)) r11.1 hx41) (gN rfl rfl (congrArg not (hb38)) (m1 rfl (gN rfl rfl (congrArg not (hb38)) (neS rfl rfl rfl (pF rfl rfl (congrArg not (hb38)) rfl (on ?_))))))
     cases hr42
     exact cu ⟨rfl, rfl, rfl, tv⟩
    ·have hr43 := if_f hb38 hr37
     refine gF rfl rfl (congrArg not (hb38)) rfl (gF rfl rfl (congrArg not (hb38)) rfl (gF rfl rfl (congrArg not (hb38)) rfl (gF rfl rfl (congrArg not (hb38)) rfl (pT rfl rfl (congrArg not (hb38)) rfl (on ?_)))))
     cases hr43
     exact cu ⟨rfl, rfl, rfl, tv⟩
  ·rintro a w ⟨hS, hA⟩
   refine TG.ap ?_ hS hA
   refine cb rfl (fun hc47 => ?_) (fun hc47 => ?_)
   ·have hr48 := if_p hc47 hr31
    refine sq (rg (bu (cs := [.int .u8 0, .int .i64 0]) T4.B79 rfl rfl rfl (sto 1 (cs := [.int .u8 0, .int .i64 0]) Z79 rfl rfl rfl rfl rfl rfl rfl (a1 rfl (on (rt_ ?_))))))
    cases hr48
    intro a w hS hA
    refine rc2 hA rfl (ResAt.cell rfl (loadsA G79 Z79 (cell_at (hS.get (t := 1) rfl)) rfl)) (ResAt.tmp rfl) ?_
    exact ⟨rfl, hS.ext⟩
   ·have hr49 := if_f hc47 hr31
    refine sk (sq (rg (m1 rfl (bu (cs := [.int .u8 1, .int .i64 r11.1]) T4.B79 rfl rfl rfl (sto 1 (cs := [.int .u8 1, .int .i64 r11.1]) Z79 rfl rfl rfl rfl rfl rfl rfl (a1 rfl (on (rt_ ?_))))))))
    cases hr49
    intro a w hS hA
    refine rc2 hA rfl (ResAt.cell rfl (loadsA G79 Z79 (cell_at (hS.get (t := 1) rfl)) rfl)) (ResAt.tmp rfl) ?_
    exact ⟨rfl, hS.ext⟩

theorem w54 {M : Prop} {W : World} {H : Hp} (hH : H.le (hp W)) (hg : Gv M H) {mp_m_0 : Value} {m_0 : List (Bytes × Mark)} (h_m_0 : Mp keS (fun x => Value.agg (encMark x).toArray) H mp_m_0 m_0) {ad_texts : Option Addr} {cap_texts : Nat} {texts : List Bytes} (h_texts : Sl (Flat encS) 1 H ad_texts cap_texts texts) {r : List Mark} (hr : m54 m_0 texts = some r) : Calls Tryz.prog 54 [mp_m_0, .slice ad_texts texts.length cap_texts].toArray W (RetK M H W (fun v K => ∃ (ad0 : Option Addr) (cap0 : Nat), v = .slice ad0 r.length cap0 ∧ Sl (Flat encMark) 2 K ad0 cap0 r)) := by
 have := h_texts.len
 unfold m54 at hr
 refine enterG (M := M) Tryz.func54 rfl Tryz.ntmps54 rfl hH ?_
 refine sq (rg (a1 rfl (on (sq (sq (rg (m1 rfl (lnL U24 rfl rfl (m1 rfl (on (TG.nilRow 2 79 2 ?_)))))))))))
 refine TG.as 2 (z := Own.list none 0 79 2 encMark ([] : List Mark)) rfl rfl ?_
 obtain ⟨e102, hl103, hr104⟩ := bd_some hr
 refine jn (fun a w => ∃ (ad105 : Option Addr) (cap106 : Nat), St M W H [H] [(2, Own.list ad105 cap106 79 2 encMark e102)] w ∧ Has [] 28 a [(4, .slice ad105 e102.length cap106)]) ?_ ?_
 ·refine bk ?_
  refine lp hl103 (fun s107 a w => ∃ (ad108 : Option Addr) (cap109 : Nat), St M W H [H] [(2, Own.list ad108 cap109 79 2 encMark s107.2)] w ∧ Has [] 28 a [(0, mp_m_0), (4, .slice ad108 s107.2.length cap109), (9, .slice ad_texts texts.length cap_texts), (10, .int .i64 (texts.length : Int)), (11, .int .i64 (s107.1 : Int))]) ?_ ?_
  ·intro a w hS hA
   exact ⟨none, 0, hS, hA.cut ⟨rfl, rfl, rfl, rfl, rfl, tv⟩⟩
  ·rintro j s107 y112 hr110 hz111 a w ⟨ad108, cap109, hS, hA⟩
   refine TG.ap ?_ hS hA
   unfold m54_1 at hr110
   refine sq (rg (ltI rfl rfl rfl (on (sq ?_))))
   refine ci rfl (fun hc116 => ?_) (fun hc116 => ?_)
   ·have hr117 := if_p hc116 hr110
    refine sk (sq (bk (sq (rg ?_))))
    obtain ⟨x143, hx144, hr145⟩ := bd_some hr117
    obtain ⟨p146, rfl⟩ := h_texts.adr hx144
    obtain ⟨cs147, hcs148, hq149, hr150⟩ := h_texts.at hx144
    obtain rfl := hr150
    refine iaP U24 Z9 rfl rfl rfl rfl (lt_of hx144) (ld G9 rfl rfl (sS 0 rfl hq149) rfl (a1 rfl (on (sq (rg (m1 rfl (m1 rfl ?_)))))))
    obtain ⟨r151, hx152, hr153⟩ := bd_some hr145
    refine clS C80 rfl rfl rfl rfl (fun w H hH le => w80 hH (hg.mono (le.at 0 rfl)) (m_0 := m_0) (h_m_0.mono (le.at 0 rfl)) x143 hx152) (m1 rfl (ex rfl rfl rfl (ex rfl rfl rfl (va (cs := [.int .u8 r151.1.kind, .int .i64 r151.1.value]) Tryz.zeroValue79 Z79 rfl rfl rfl rfl rfl rfl rfl rfl fun q154 K155 hK156 => (a1 rfl (on (sq (rg (m1 rfl (on ?_))))))))))
    obtain ⟨t165, hx166, hr167⟩ := bd_some hr153
    refine jn (fun a w => ∃ (ad168 : Option Addr) (cap169 : Nat), St M W H [K155, H] [(2, Own.list ad168 cap169 79 2 encMark t165)] w ∧ Has [] 28 a [(0, mp_m_0), (4, .slice ad168 t165.length cap169), (9, .slice (some p146) texts.length cap_texts), (10, .int .i64 (texts.length : Int)), (11, .int .i64 (s107.1 : Int))]) ?_ ?_
    ·refine cb rfl (fun hc170 => ?_) (fun hc170 => ?_)
     ·have hr171 := if_p hc170 hx166
      refine rg (m1 rfl (ldA G79 Z79 rfl rfl (sS 0 rfl hK156) rfl ?_))
      obtain ⟨hk172, hr173⟩ := chk_some hr171
      have := lenA s107.2 [r151.1]
      refine ap1 2 encMark (l := s107.2) r151.1 T4.E49 rfl rfl rfl rfl rfl rfl rfl rfl rfl rfl rfl rfl hk172 fun ad174 cap175 u176 => (a1 rfl (on ?_))
      cases hr173
      intro a w hS hA
      exact ⟨ad174, cap175, hS, hA.cut ⟨rfl, rfl, rfl, rfl, rfl, tv⟩⟩
     ·have hr177 := if_f hc170 hx166
      refine sk ?_
      cases hr177
      intro a w hS hA
      exact ⟨ad108, cap109, hS, hA.cut ⟨rfl, rfl, rfl, rfl, rfl, tv⟩⟩
    ·rintro a w ⟨ad168, cap169, hS, hA⟩
     refine TG.ap ?_ hS hA
     refine rg (adI rfl rfl rfl (by omega) (m1 rfl (on ?_)))
     cases hr167
     intro a w hS hA
     exact ⟨_, hz111, ad168, cap169, hS.selH [1] rfl, hA.cut ⟨rfl, rfl, rfl, rfl, rfl, tv⟩⟩
   ·have hr178 := if_n hc116 hr110
    refine xt rfl ?_
    cases hr178
    obtain rfl := Fin.out hz111
    intro a w hS hA
    exact ⟨ad108, cap109, hS, hA.cut ⟨rfl, tv⟩⟩
 ·rintro a w ⟨ad105, cap106, hS, hA⟩
  refine TG.ap ?_ hS hA
  refine sq (rg (m1 rfl (a1 rfl (on (rt_ ?_)))))
  cases hr104
  intro a w hS hA
  refine ret1 hA rfl rfl ?_
  exact ⟨⟨_, _, rfl, (hS.listOut 2 rfl (fun _ => rfl))⟩, hS.ext⟩

theorem w26 {M : Prop} {W : World} {H : Hp} (hH : H.le (hp W)) (hg : Gv M H) {cs_l_0 : List Value} (l_0 : Lexicon) (h_l_0 : (RLexicon) H cs_l_0 l_0) {ad_texts : Option Addr} {cap_texts : Nat} {texts : List Bytes} (h_texts : Sl (Flat encS) 1 H ad_texts cap_texts texts) {r : List Mark × Int} (hr : m26 l_0 texts = some r) : Calls Tryz.prog 26 [.agg cs_l_0.toArray, .slice ad_texts texts.length cap_texts].toArray W (RetK M H W (fun v K => ∃ (ad0 : Option Addr) (cap0 : Nat), v = .tuple [.slice ad0 r.1.length cap0, .int .i64 r.2].toArray ∧ Sl (Flat encMark) 2 K ad0 cap0 r.1)) := by
 have hh_l_0 := h_l_0
 obtain ⟨ad1, cap2, ad4, cap5, ad7, cap8, rfl, hl3, hl6, hl9⟩ := h_l_0
 have := hl3.len
 have := hl6.len
 have := hl9.len
 have := h_texts.len
 unfold m26 at hr
 refine enterG (M := M) Tryz.func26 rfl Tryz.ntmps26 rfl hH ?_
 refine sq (rg (bI (cs := [.slice ad1 l_0.numbers.length cap2, .slice ad4 l_0.names.length cap5, .slice ad7 l_0.nots.length cap8]) rfl rfl rfl fun q10 K11 hK12 => (a1 rfl (a1 rfl (on (sq (rg (ldA G36 Z36 rfl rfl (sS 0 rfl hK12) rfl ?_))))))))
 obtain ⟨r13, hx14, hr15⟩ := bd_some hr
 refine clK C58 rfl rfl rfl rfl (fun w H hH le => w58 hH l_0 (RLexicon.mono _ _ _ _ (le.at 1 rfl) hh_l_0) hx14) ?_
 rintro v_ K16 ⟨mp17, rfl, hm18⟩
 refine m1 rfl (ex rfl rfl rfl (ex rfl rfl rfl (a1 rfl (a1 rfl (on (sq (sq (rg (m1 rfl (neI rfl rfl rfl (on ?_)))))))))))
 refine ci rfl (fun hc22 => ?_) (fun hc22 => ?_)
 ·have hr23 := if_p hc22 hr15
  refine sq (rg (m1 rfl (a1 rfl (a1 rfl (on (rt_ ?_))))))
  cases hr23
  intro a w hS hA
  refine ret2 hA rfl rfl rfl ?_
  exact ⟨⟨_, _, rfl, (Sl.nil _ _ _ _ _ (by decide))⟩, hS.ext⟩
 ·have hr24 := if_n hc22 hr15
  refine sk (sq (sq (rg (m1 rfl (bS (cs := [.slice ad_texts texts.length cap_texts]) T4.E23 rfl rfl rfl rfl fun q25 K26 hq27 hK28 => (TG.pack (fun K => Sl (RSl (Flat encS) 1) 1 K (some q25) 1 ([texts] : List (List Bytes))) (fun H le => Sl.litR (css := [[.slice ad_texts texts.length cap_texts]]) (l := ([texts] : List (List Bytes))) ⟨⟨rfl, rfl, ⟨_, _, rfl, (h_texts.mono (Flat.mono _) (le.at 3 rfl))⟩⟩, tv⟩ hq27 (hK28.mono (le.at 0 rfl)) rfl) fun K30 hl29 => ?_))))))
  have := hl29.len
  obtain ⟨r31, hx32, hr33⟩ := bd_some hr24
  refine clS C52 rfl rfl rfl rfl (fun w H hH le => w52 hH (hl29.mono (RSl.mono (Flat.mono _)) (le.at 0 rfl)) hx32) (a1 rfl (on (sq (rg (m1 rfl (neI rfl rfl rfl (on ?_)))))))
  refine ci rfl (fun hc37 => ?_) (fun hc37 => ?_)
  ·have hr38 := if_p hc37 hr33
   refine sq (rg (m1 rfl (a1 rfl (a1 rfl (on (rt_ ?_))))))
   cases hr38
   intro a w hS hA
   refine ret2 hA rfl rfl rfl ?_
   exact ⟨⟨_, _, rfl, (Sl.nil _ _ _ _ _ (by decide))⟩, hS.ext⟩
  ·have hr39 := if_n hc37 hr33
   refine sk (sq (rg (m1 rfl (m1 rfl ?_))))
   obtain ⟨r40, hx41, hr42⟩ := bd_some hr39
   refine clK C54 rfl rfl rfl rfl (fun w H hH le => w54 hH (hg.mono (le.at 4 rfl)) (m_0 := r13.1) (hm18.mono (le.at 2 rfl)) (h_texts.mono (Flat.mono _) (le.at 4 rfl)) hx41) ?_
   rintro v_ K43 ⟨ad44, cap45, rfl, hl46⟩
   have := hl46.len
   refine a1 rfl (a1 rfl (on (rt_ ?_)))
   cases hr42
   intro a w hS hA
   refine ret2 hA rfl rfl rfl ?_
   exact ⟨⟨_, _, rfl, (hl46.mono (Flat.mono _) (hS.grow 0 rfl))⟩, hS.ext⟩

theorem w71 {M : Prop} {W : World} {cs_s_0 : List Value} (s_0 : Swap) (h_s_0 : (Flat encSwap) (hp W) cs_s_0 s_0) {r : Bool} (hr : m71 s_0 = some r) : Calls Tryz.prog 71 [.agg cs_s_0.toArray].toArray W (RetS M W (.bool r)) := by
 obtain rfl := h_s_0
 unfold m71 at hr
 refine enterG (M := M) Tryz.func71 rfl Tryz.ntmps71 rfl (Hp.le.refl _) ?_
 refine sq (rg (bI (cs := [.int .u8 s_0.kind, .int .i64 s_0.old_, .int .i64 s_0.new_]) rfl rfl rfl fun q1 K2 hK3 => (a1 rfl (on (sq ?_)))))
 obtain ⟨t28, hx29, hr30⟩ := bd_some hr
 refine jn (fun a w => St M W (hp W) [K2, (hp W)] [] w ∧ Has [] 21 a [(2, .bool t28)]) ?_ ?_
 ·refine rg (fb 0 U109 rfl rfl rfl rfl Z5 (ld G5 rfl rfl ((sS 0 rfl hK3).take 1) rfl (eqI rfl rfl rfl (m1 rfl ?_))))
  by_cases hb31 : s_0.kind = 1
  ·have hr32 := if_p hb31 hx29
   refine gf' hb31 rfl (gf' hb31 rfl (gf' hb31 rfl (pt hb31 rfl rfl (m1 rfl (gN rfl rfl rfl (fb 1 U109 rfl rfl rfl rfl Z3 (gN rfl rfl rfl (ld G3 rfl rfl (((sS 0 rfl hK3).drop 1).take 1) rfl (gN rfl rfl rfl ?_)))))))))
   obtain ⟨r33, hx34, hr35⟩ := bd_some hr32
   refine clS C72 rfl rfl rfl rfl (fun w H hH le => w72 s_0.old_ hx34) (pT rfl rfl rfl rfl (m1 rfl ?_))
   rcases Bool.eq_false_or_eq_true (r33) with hb36 | hb36
   ·have hr37 := if_p hb36 hr35
    refine gN rfl rfl (hb36) (fb 2 U109 rfl rfl rfl rfl Z3 (gN rfl rfl (hb36) (ld G3 rfl rfl ((sS 0 rfl hK3).drop 2) rfl (gN rfl rfl (hb36) ?_))))
    obtain ⟨r38, hx39, hr40⟩ := bd_some hr37
    refine clS C72 rfl rfl rfl rfl (fun w H hH le => w72 s_0.new_ hx39) (pT rfl rfl (hb36) rfl (a1 rfl (on ?_)))
    cases hr40
    exact cu ⟨rfl, tv⟩
   ·have hr41 := if_f hb36 hr35
    refine gF rfl rfl (hb36) rfl (gF rfl rfl (hb36) rfl (gF rfl rfl (hb36) rfl (pF rfl rfl (hb36) rfl (a1 rfl (on ?_)))))
    cases hr41
    exact cu ⟨rfl, tv⟩
  ·have hr42 := if_n hb31 hx29
   refine gt' hb31 rfl (fb 0 U109 rfl rfl rfl rfl Z5 (gt' hb31 rfl (ld G5 rfl rfl ((sS 0 rfl hK3).take 1) rfl (gt' hb31 rfl (eqI rfl rfl rfl (pf hb31 rfl rfl (m1 rfl ?_)))))))
   by_cases hb43 : s_0.kind = 2
   ·have hr44 := if_p hb43 hr42
    refine gt hb43 rfl (fb 1 U109 rfl rfl rfl rfl Z3 (gt hb43 rfl (ld G3 rfl rfl (((sS 0 rfl hK3).drop 1).take 1) rfl (gt hb43 rfl ?_))))
    obtain ⟨r45, hx46, hr47⟩ := bd_some hr44
    refine clS C72 rfl rfl rfl rfl (fun w H hH le => w72 s_0.old_ hx46) (pt hb43 rfl rfl (m1 rfl ?_))
    rcases Bool.eq_false_or_eq_true (r45) with hb48 | hb48
    ·have hr49 := if_p hb48 hr47
     refine gN rfl rfl (hb48) (fb 2 U109 rfl rfl rfl rfl Z3 (gN rfl rfl (hb48) (ld G3 rfl rfl ((sS 0 rfl hK3).drop 2) rfl (gN rfl rfl (hb48) ?_))))
     obtain ⟨r50, hx51, hr52⟩ := bd_some hr49
     refine clS C72 rfl rfl rfl rfl (fun w H hH le => w72 s_0.new_ hx51) (pT rfl rfl (hb48) rfl (a1 rfl (on ?_)))
     cases hr52
     exact cu ⟨rfl, tv⟩
    ·have hr53 := if_f hb48 hr47
     refine gF rfl rfl (hb48) rfl (gF rfl rfl (hb48) rfl (gF rfl rfl (hb48) rfl (pF rfl rfl (hb48) rfl (a1 rfl (on ?_)))))
     cases hr53
     exact cu ⟨rfl, tv⟩
   ·have hr54 := if_n hb43 hr42
    refine gf hb43 rfl (gf hb43 rfl (gf hb43 rfl (pf hb43 rfl rfl (m1 rfl (gF rfl rfl rfl rfl (gF rfl rfl rfl rfl (gF rfl rfl rfl rfl (pF rfl rfl rfl rfl (a1 rfl (on ?_))))))))))
    cases hr54
    exact cu ⟨rfl, tv⟩
 ·rintro a w ⟨hS, hA⟩
  refine TG.ap ?_ hS hA
  refine rt_ ?_
  cases hr30
  intro a w hS hA
  refine ret1 hA rfl rfl ?_
  exact ⟨rfl, hS.ext⟩

theorem w99 {M : Prop} {W : World} {H : Hp} (hH : H.le (hp W)) {cs_x_0 : List Value} (x_0 : Swap) (h_x_0 : (Flat encSwap) H cs_x_0 x_0) {q_f0_ : Addr} {fv_f0_ : Value} {f0_ : Swap → Option Bool} (hc_f0_ : CellsAt H q_f0_ [fv_f0_]) (h_f0_ : FnV M Tryz.prog H fv_f0_ (SF1 (Va encSwap) Value.bool f0_)) {r : Bool} (hr : m99 x_0 f0_ = some r) : Calls Tryz.prog 99 [.agg cs_x_0.toArray, .pointer (some q_f0_)].toArray W (RetS M W (.bool r)) := by
 obtain rfl := h_x_0
 have hh_f0_ := h_f0_
 obtain ⟨f_f0_, fi_f0_, ca_f0_, rfl, _, _⟩ := h_f0_
 unfold m99 at hr
 refine enterG (M := M) Tryz.func99 rfl Tryz.ntmps99 rfl hH ?_
 refine sq (rg (bI (cs := [.int .u8 x_0.kind, .int .i64 x_0.old_, .int .i64 x_0.new_]) rfl rfl rfl fun q1 K2 hK3 => (a1 rfl (on (sq (rg (ld G146 rfl rfl (sS 1 rfl hc_f0_) rfl (ldA G109 Z109 rfl rfl (sS 0 rfl hK3) rfl ?_))))))))
 obtain ⟨r4, hx5, hr6⟩ := bd_some hr
 refine clV (v := .bool r4) hh_f0_ 1 rfl rfl rfl rfl (fun H le => ⟨_, x_0, r4, rfl, rfl, hx5, rfl⟩) (nt rfl rfl (a1 rfl (on (rt_ ?_))))
 cases hr6
 intro a w hS hA
 refine ret1 hA rfl rfl ?_
 exact ⟨rfl, hS.ext⟩

theorem w132 {M : Prop} {W : World} {H : Hp} (hH : H.le (hp W)) {ad_s_0 : Option Addr} {cap_s_0 : Nat} {s_0 : List Swap} (h_s_0 : Sl (Flat encSwap) 3 H ad_s_0 cap_s_0 s_0) {fv_f_1 : Value} {f_1 : Swap → Option Bool} (h_f_1 : FnV M Tryz.prog H fv_f_1 (SF1 (Va encSwap) Value.bool f_1)) {r : Int} (hr : m132 s_0 f_1 = some r) : Calls Tryz.prog 132 [.slice ad_s_0 s_0.length cap_s_0, fv_f_1].toArray W (RetS M W (.int .i64 r)) := by
 have := h_s_0.len
 have hh_f_1 := h_f_1
 obtain ⟨f_f_1, fi_f_1, ca_f_1, rfl, _, _⟩ := h_f_1
 unfold m132 at hr
 refine enterG (M := M) Tryz.func132 rfl Tryz.ntmps132 rfl hH ?_
 refine sq (rg (a1 rfl (on (sq (sq (rg (m1 rfl (lnL U38 rfl rfl (m1 rfl (on ?_))))))))))
 obtain ⟨e19, hl20, hr21⟩ := bd_some hr
 refine jn (fun a w => ∃ t22, e19 = .inl t22 ∧ St M W H [H] [] w ∧ Has [] 19 a []) ?_ ?_
 ·refine bk ?_
  refine lp hl20 (fun s23 a w => St M W H [H] [] w ∧ Has [] 19 a [(0, .slice ad_s_0 s_0.length cap_s_0), (1, .func (.func f_f_1) fi_f_1.toArray ca_f_1.toArray), (7, .int .i64 (s_0.length : Int)), (8, .int .i64 (s23 : Int))]) ?_ ?_
  ·exact cu ⟨rfl, rfl, rfl, rfl, tv⟩
  ·rintro j s23 y26 hr24 hz25 a w ⟨hS, hA⟩
   refine TG.ap ?_ hS hA
   unfold m132_1 at hr24
   refine sq (rg (ltI rfl rfl rfl (on (sq ?_))))
   refine ci rfl (fun hc30 => ?_) (fun hc30 => ?_)
   ·have hr31 := if_p hc30 hr24
    refine sk (sq (bk (sq (rg (m1 rfl (a1 rfl (on (sq (rg (m1 rfl (m1 rfl ?_)))))))))))
    refine m1 rfl ?_
    obtain ⟨x46, hx47, hr48⟩ := bd_some hr31
    obtain ⟨p49, rfl⟩ := h_s_0.adr hx47
    obtain ⟨cs50, hcs51, hq52, hr53⟩ := h_s_0.at hx47
    obtain rfl := hr53
    refine iaP U38 Z109 rfl rfl rfl rfl (lt_of hx47) (ldA G109 Z109 rfl rfl (sS 0 rfl hq52) rfl ?_)
    obtain ⟨r54, hx55, hr56⟩ := bd_some hr48
    refine clV (v := .bool r54) hh_f_1 0 rfl rfl rfl rfl (fun H le => ⟨_, x46, r54, rfl, rfl, hx55, rfl⟩) (on ?_)
    refine cb rfl (fun hc60 => ?_) (fun hc60 => ?_)
    ·have hr61 := if_p hc60 hr56
     refine sq (rg (m1 rfl (a1 rfl (on (rt_ ?_)))))
     cases hr61
     obtain rfl := Fin.out hz25
     cases hr21
     intro a w hS hA
     refine ret1 hA rfl rfl ?_
     exact ⟨rfl, hS.ext⟩
    ·have hr62 := if_f hc60 hr56
     refine sk (rg (adI rfl rfl rfl (by omega) (m1 rfl (on ?_))))
     cases hr62
     intro a w hS hA
     exact ⟨_, hz25, hS, hA.cut ⟨rfl, rfl, rfl, rfl, tv⟩⟩
   ·have hr63 := if_n hc30 hr24
    refine xt rfl ?_
    cases hr63
    obtain rfl := Fin.out hz25
    intro a w hS hA
    exact ⟨_, rfl, hS, hA.cut tv⟩
 ·rintro a w ⟨t22, rfl, hS, hA⟩
  refine TG.ap ?_ hS hA
  refine sq (rg (a1 rfl (on (rt_ ?_))))
  cases hr21
  intro a w hS hA
  refine ret1 hA rfl rfl ?_
  exact ⟨rfl, hS.ext⟩

theorem w98 {M : Prop} {W : World} {H : Hp} (hH : H.le (hp W)) {ad_s_0 : Option Addr} {cap_s_0 : Nat} {s_0 : List Swap} (h_s_0 : Sl (Flat encSwap) 3 H ad_s_0 cap_s_0 s_0) {fv_f_1 : Value} {f_1 : Swap → Option Bool} (h_f_1 : FnV M Tryz.prog H fv_f_1 (SF1 (Va encSwap) Value.bool f_1)) {r : Bool} (hr : m98 s_0 f_1 = some r) : Calls Tryz.prog 98 [.slice ad_s_0 s_0.length cap_s_0, fv_f_1].toArray W (RetS M W (.bool r)) := by
 have := h_s_0.len
 have hh_f_1 := h_f_1
 obtain ⟨f_f_1, fi_f_1, ca_f_1, rfl, _, _⟩ := h_f_1
 unfold m98 at hr
 refine enterG (M := M) Tryz.func98 rfl Tryz.ntmps98 rfl hH ?_
 refine sq (rg (a1 rfl (on (sq (rg (m1 rfl (m1 rfl ?_)))))))
 obtain ⟨r1, hx2, hr3⟩ := bd_some hr
 refine clS C132 rfl rfl rfl rfl (fun w H hH le => w132 hH (h_s_0.mono (Flat.mono _) (le.at 0 rfl)) (f_1 := f_1) (hh_f_1.mono (le.at 0 rfl)) hx2) (geI rfl rfl rfl (a1 rfl (on (rt_ ?_))))
 cases hr3
 intro a w hS hA
 refine ret1 hA rfl rfl ?_
 exact ⟨rfl, hS.ext⟩

theorem w73 {M : Prop} {W : World} {H : Hp} (hH : H.le (hp W)) {ad_l_0 : Option Addr} {cap_l_0 : Nat} {l_0 : List Swap} (h_l_0 : Sl (Flat encSwap) 3 H ad_l_0 cap_l_0 l_0) {fv_right : Value} {right : Swap → Option Bool} (h_right : FnV M Tryz.prog H fv_right (SF1 (Va encSwap) Value.bool right)) {r : Bool} (hr : m73 l_0 right = some r) : Calls Tryz.prog 73 [.slice ad_l_0 l_0.length cap_l_0, fv_right].toArray W (RetS M W (.bool r)) := by
 have := h_l_0.len
 have hh_right := h_right
 obtain ⟨f_right, fi_right, ca_right, rfl, _, _⟩ := h_right
 unfold m73 at hr
 refine enterG (M := M) Tryz.func73 rfl Tryz.ntmps73 rfl hH ?_
 refine sq (rg (bI (cs := [.func (.func f_right) fi_right.toArray ca_right.toArray]) rfl rfl rfl fun q1 K2 hK3 => (a1 rfl (on (sq (rg (m1 rfl (fn rfl rfl rfl ?_))))))))
 obtain ⟨r5, hx6, hr7⟩ := bd_some hr
 refine clS (v := .bool r5) C98 rfl rfl rfl rfl (fun w H hH le => by
   have hf4 : FnV M Tryz.prog H (.func (.func 99) [].toArray [.pointer (some q1)].toArray) (SF1 (Va encSwap) Value.bool (fun x0_ => m99 x0_ right)) := ⟨99, [], [.pointer (some q1)], rfl, C99, fun w_ K_ args_ v_ hK hw hs => by obtain ⟨u0_, x0_, r_, rfl, h0_, hx, rfl⟩ := hs; cases h0_; exact w99 (H := K_) hw  x0_ rfl (f0_ := right) (hK3.mono ((le.at 0 rfl).trans hK)) (hh_right.mono ((le.at 1 rfl).trans hK)) hx⟩
   exact w98 hH (h_l_0.mono (Flat.mono _) (le.at 1 rfl)) (f_1 := (fun x0_ => m99 x0_ right)) hf4 hx6) ?_
 refine nt rfl rfl (a1 rfl (on (rt_ ?_)))
 cases hr7
 intro a w hS hA
 refine ret1 hA rfl rfl ?_
 exact ⟨rfl, hS.ext⟩

theorem w51 {M : Prop} {W : World} {H : Hp} (hH : H.le (hp W)) {cs_l_0 : List Value} (l_0 : Lexicon) (h_l_0 : (RLexicon) H cs_l_0 l_0) {ad_swaps : Option Addr} {cap_swaps : Nat} {swaps : List Swap} (h_swaps : Sl (Flat encSwap) 3 H ad_swaps cap_swaps swaps) {r : rules × Int} (hr : m51 l_0 swaps = some r) : Calls Tryz.prog 51 [.agg cs_l_0.toArray, .slice ad_swaps swaps.length cap_swaps].toArray W (RetK M H W (fun v K => ∃ (cs0 : List Value), v = .tuple [.agg cs0.toArray, .int .i64 r.2].toArray ∧ (Rrules) K cs0 r.1)) := by
 have hh_l_0 := h_l_0
 obtain ⟨ad1, cap2, ad4, cap5, ad7, cap8, rfl, hl3, hl6, hl9⟩ := h_l_0
 have := hl3.len
 have := hl6.len
 have := hl9.len
 have := h_swaps.len
 unfold m51 at hr
 refine enterG (M := M) Tryz.func51 rfl Tryz.ntmps51 rfl hH ?_
 refine sq (rg (bI (cs := [.slice ad1 l_0.numbers.length cap2, .slice ad4 l_0.names.length cap5, .slice ad7 l_0.nots.length cap8]) rfl rfl rfl fun q10 K11 hK12 => (al 1 (cs := [.map none, .slice none 0 0]) Tryz.zeroValue117 rfl rfl fun b13 => (a1 rfl (on (sq (rg (ldA G36 Z36 rfl rfl (sS 0 rfl hK12) rfl ?_))))))))
 obtain ⟨r14, hx15, hr16⟩ := bd_some hr
 refine clK C58 rfl rfl rfl rfl (fun w H hH le => w58 hH l_0 (RLexicon.mono _ _ _ _ (le.at 1 rfl) hh_l_0) hx15) ?_
 rintro v_ K17 ⟨mp18, rfl, hm19⟩
 refine m1 rfl (ex rfl rfl rfl (ex rfl rfl rfl (a1 rfl (a1 rfl (on (sq (rg (a1 rfl (on (sq (bk ?_)))))))))))
 refine sq (rg (m1 rfl (neI rfl rfl rfl (a1 rfl (on ?_)))))
 refine ci rfl (fun hc46 => ?_) (fun hc46 => ?_)
 ·have hr47 := if_p hc46 hr16
  refine sq (rg (bu (cs := [.map none, .slice none 0 0]) T4.B117 rfl rfl rfl (m1 rfl (sto 1 (cs := [.map none, .slice none 0 0]) Z117 rfl rfl rfl rfl rfl rfl rfl (a1 rfl (on (rt_ ?_)))))))
  cases hr47
  intro a w hS hA
  refine rc2 hA rfl (ResAt.cell rfl (loadsA G117 Z117 (cell_at (hS.get (t := 1) rfl)) rfl)) (ResAt.tmp rfl) ?_
  exact ⟨⟨_, rfl, ⟨_, _, _, rfl, Mp.nil, (Sl.nil _ _ _ _ _ (by decide))⟩⟩, hS.ext⟩
 ·have hr48 := if_n hc46 hr16
  refine sq (rg (m1 rfl (lnL U38 rfl rfl (gtI rfl rfl rfl (a1 rfl (on ?_))))))
  refine ci rfl (fun hc59 => ?_) (fun hc59 => ?_)
  ·have hr60 := if_p hc59 hr48
   refine sq (rg (bu (cs := [.map none, .slice none 0 0]) T4.B117 rfl rfl rfl (sto 1 (cs := [.map none, .slice none 0 0]) Z117 rfl rfl rfl rfl rfl rfl rfl (a1 rfl (on (rt_ ?_))))))
   cases hr60
   intro a w hS hA
   refine rc2 hA rfl (ResAt.cell rfl (loadsA G117 Z117 (cell_at (hS.get (t := 1) rfl)) rfl)) (ResAt.tmp rfl) ?_
   exact ⟨⟨_, rfl, ⟨_, _, _, rfl, Mp.nil, (Sl.nil _ _ _ _ _ (by decide))⟩⟩, hS.ext⟩
  ·have hr61 := if_n hc59 hr48
   refine sq (rg (m1 rfl (m1 rfl ?_)))
   obtain ⟨r63, hx64, hr65⟩ := bd_some hr61
   refine clS (v := .bool r63) C73 rfl rfl rfl rfl (fun w H hH le => by
     have hf62 : FnV M Tryz.prog H (.func (.func 71) [].toArray [].toArray) (SF1 (Va encSwap) Value.bool (m71)) := ⟨71, [], [], rfl, C71, fun w_ K_ args_ v_ hK hw hs => by obtain ⟨u0_, x0_, r_, rfl, h0_, hx, rfl⟩ := hs; cases h0_; exact w71  x0_ rfl  hx⟩
     exact w73 hH (h_swaps.mono (Flat.mono _) (le.at 2 rfl)) (right := (m71)) hf62 hx64) ?_
   refine nt rfl rfl (a1 rfl (on ?_))
   refine cb rfl (fun hc69 => ?_) (fun hc69 => ?_)
   ·replace hc69 := nbt hc69
    have hr70 := if_f hc69 hr65
    refine sq (rg (bu (cs := [.map none, .slice none 0 0]) T4.B117 rfl rfl rfl (sto 1 (cs := [.map none, .slice none 0 0]) Z117 rfl rfl rfl rfl rfl rfl rfl (a1 rfl (on (rt_ ?_))))))
    cases hr70
    intro a w hS hA
    refine rc2 hA rfl (ResAt.cell rfl (loadsA G117 Z117 (cell_at (hS.get (t := 1) rfl)) rfl)) (ResAt.tmp rfl) ?_
    exact ⟨⟨_, rfl, ⟨_, _, _, rfl, Mp.nil, (Sl.nil _ _ _ _ _ (by decide))⟩⟩, hS.ext⟩
   ·replace hc69 := nbf hc69
    have hr71 := if_p hc69 hr65
    refine sk (sq (rg (m1 rfl (m1 rfl ?_))))
    obtain ⟨b72, rfl⟩ := Mp.isMap hm19
    refine bu (cs := [.map b72, .slice ad_swaps swaps.length cap_swaps]) T4.B117 rfl rfl rfl (sto 1 (cs := [.map b72, .slice ad_swaps swaps.length cap_swaps]) Z117 rfl rfl rfl rfl rfl rfl rfl (a1 rfl (on (rt_ ?_))))
    cases hr71
    intro a w hS hA
    refine rc2 hA rfl (ResAt.cell rfl (loadsA G117 Z117 (cell_at (hS.get (t := 1) rfl)) rfl)) (ResAt.tmp rfl) ?_
    exact ⟨⟨_, rfl, ⟨_, _, _, rfl, (hm19.mono (hS.grow 0 rfl)), (h_swaps.mono (Flat.mono _) (hS.grow 2 rfl))⟩⟩, hS.ext⟩

theorem w137 {M : Prop} {W : World} {H : Hp} (hH : H.le (hp W)) {ad_s_0 : Option Addr} {cap_s_0 : Nat} {s_0 : List Swap} (h_s_0 : Sl (Flat encSwap) 3 H ad_s_0 cap_s_0 s_0) {cs_v_1 : List Value} (v_1 : Swap) (h_v_1 : (Flat encSwap) H cs_v_1 v_1) {r : Int} (hr : m137 s_0 v_1 = some r) : Calls Tryz.prog 137 [.slice ad_s_0 s_0.length cap_s_0, .agg cs_v_1.toArray].toArray W (RetS M W (.int .i64 r)) := by
 have := h_s_0.len
 obtain rfl := h_v_1
 unfold m137 at hr
 refine enterG (M := M) Tryz.func137 rfl Tryz.ntmps137 rfl hH ?_
 refine sq (rg (bI (cs := [.int .u8 v_1.kind, .int .i64 v_1.old_, .int .i64 v_1.new_]) rfl rfl rfl fun q1 K2 hK3 => (a1 rfl (on (sq (sq (rg (m1 rfl (lnL U38 rfl rfl (m1 rfl (on ?_)))))))))))
 obtain ⟨e20, hl21, hr22⟩ := bd_some hr
 refine jn (fun a w => ∃ t23, e20 = .inl t23 ∧ St M W H [K2, H] [] w ∧ Has [] 19 a []) ?_ ?_
 ·refine bk ?_
  refine lp hl21 (fun s24 a w => St M W H [K2, H] [] w ∧ Has [] 19 a [(0, .slice ad_s_0 s_0.length cap_s_0), (3, .pointer (some q1)), (7, .int .i64 (s_0.length : Int)), (8, .int .i64 (s24 : Int))]) ?_ ?_
  ·exact cu ⟨rfl, rfl, rfl, rfl, tv⟩
  ·rintro j s24 y27 hr25 hz26 a w ⟨hS, hA⟩
   refine TG.ap ?_ hS hA
   unfold m137_1 at hr25
   refine sq (rg (ltI rfl rfl rfl (on (sq ?_))))
   refine ci rfl (fun hc31 => ?_) (fun hc31 => ?_)
   ·have hr32 := if_p hc31 hr25
    refine sk (sq (bk (sq (rg (m1 rfl (a1 rfl (on (sq ?_))))))))
    obtain ⟨x45, hx46, hr47⟩ := bd_some hr32
    obtain ⟨p48, rfl⟩ := h_s_0.adr hx46
    obtain ⟨cs49, hcs50, hq51, hr52⟩ := h_s_0.at hx46
    obtain rfl := hr52
    refine drG 5 mixed (by kernel_rfl) rfl (dt rfl (ldA G109 Z109 rfl rfl (sS 1 rfl hK3) rfl fin1) (dt rfl (m1 rfl fin1) (dt rfl (m1 rfl fin1) (dt rfl (iaP U38 Z109 rfl rfl rfl rfl (lt_of hx46) fin1) (dt rfl (ldA G109 Z109 rfl rfl (sS 2 rfl hq51) rfl fin1) (DF.nil fun K53 hF => (eqA v_1 x45 T4.Q109 rfl rfl rfl (on ?_))))))))
    refine ci rfl (fun hc57 => ?_) (fun hc57 => ?_)
    ·have hr58 := if_p hc57 hr47
     refine sq (rg (m1 rfl (a1 rfl (on (rt_ ?_)))))
     cases hr58
     obtain rfl := Fin.out hz26
     cases hr22
     intro a w hS hA
     refine ret1 hA rfl rfl ?_
     exact ⟨rfl, hS.ext⟩
    ·have hr59 := if_n hc57 hr47
     refine sk (rg (adI rfl rfl rfl (by omega) (m1 rfl (on ?_))))
     cases hr59
     intro a w hS hA
     exact ⟨_, hz26, hS.selH [1, 2] rfl, hA.cut ⟨rfl, rfl, rfl, rfl, tv⟩⟩
   ·have hr60 := if_n hc31 hr25
    refine xt rfl ?_
    cases hr60
    obtain rfl := Fin.out hz26
    intro a w hS hA
    exact ⟨_, rfl, hS, hA.cut tv⟩
 ·rintro a w ⟨t23, rfl, hS, hA⟩
  refine TG.ap ?_ hS hA
  refine sq (rg (a1 rfl (on (rt_ ?_))))
  cases hr22
  intro a w hS hA
  refine ret1 hA rfl rfl ?_
  exact ⟨rfl, hS.ext⟩

theorem w106 {M : Prop} {W : World} {H : Hp} (hH : H.le (hp W)) {ad_s_0 : Option Addr} {cap_s_0 : Nat} {s_0 : List Swap} (h_s_0 : Sl (Flat encSwap) 3 H ad_s_0 cap_s_0 s_0) {cs_v_1 : List Value} (v_1 : Swap) (h_v_1 : (Flat encSwap) H cs_v_1 v_1) {r : Bool} (hr : m106 s_0 v_1 = some r) : Calls Tryz.prog 106 [.slice ad_s_0 s_0.length cap_s_0, .agg cs_v_1.toArray].toArray W (RetS M W (.bool r)) := by
 have := h_s_0.len
 obtain rfl := h_v_1
 unfold m106 at hr
 refine enterG (M := M) Tryz.func106 rfl Tryz.ntmps106 rfl hH ?_
 refine sq (rg (bI (cs := [.int .u8 v_1.kind, .int .i64 v_1.old_, .int .i64 v_1.new_]) rfl rfl rfl fun q1 K2 hK3 => (a1 rfl (on (sq (rg (m1 rfl (ldA G109 Z109 rfl rfl (sS 0 rfl hK3) rfl ?_))))))))
 obtain ⟨r4, hx5, hr6⟩ := bd_some hr
 refine clS C137 rfl rfl rfl rfl (fun w H hH le => w137 hH (h_s_0.mono (Flat.mono _) (le.at 1 rfl)) v_1 rfl hx5) (geI rfl rfl rfl (a1 rfl (on (rt_ ?_))))
 cases hr6
 intro a w hS hA
 refine ret1 hA rfl rfl ?_
 exact ⟨rfl, hS.ext⟩

theorem w79 {M : Prop} {W : World} {H : Hp} (hH : H.le (hp W)) {cs_r_0 : List Value} (r_0 : rules) (h_r_0 : (Rrules) H cs_r_0 r_0) {cs_a_1 : List Value} (a_1 : Mark) (h_a_1 : (Flat encMark) H cs_a_1 a_1) {cs_b_2 : List Value} (b_2 : Mark) (h_b_2 : (Flat encMark) H cs_b_2 b_2) {r : Bool} (hr : m79 r_0 a_1 b_2 = some r) : Calls Tryz.prog 79 [.agg cs_r_0.toArray, .agg cs_a_1.toArray, .agg cs_b_2.toArray].toArray W (RetS M W (.bool r)) := by
 have hh_r_0 := h_r_0
 obtain ⟨mp1, ad3, cap4, rfl, hm2, hl5⟩ := h_r_0
 have := hl5.len
 obtain rfl := h_a_1
 obtain rfl := h_b_2
 unfold m79 at hr
 refine enterG (M := M) Tryz.func79 rfl Tryz.ntmps79 rfl hH ?_
 refine sq (rg ?_)
 obtain ⟨b6, rfl⟩ := Mp.isMap hm2
 refine bI (cs := [.map b6, .slice ad3 r_0.swaps.length cap4]) rfl rfl rfl fun q7 K8 hK9 => (bI (cs := [.int .u8 a_1.kind, .int .i64 a_1.value]) rfl rfl rfl fun q10 K11 hK12 => (bI (cs := [.int .u8 b_2.kind, .int .i64 b_2.value]) rfl rfl rfl fun q13 K14 hK15 => (a1 rfl (on (sq ?_)))))
 obtain ⟨t25, hx26, hr27⟩ := bd_some hr
 refine jn (fun a w => St M W H [K14, K11, K8, H] [] w ∧ Has [] 29 a [(6, .bool t25)]) ?_ ?_
 ·refine rg (ldA G79 Z79 rfl rfl (sS 1 rfl hK12) rfl (ldA G79 Z79 rfl rfl (sS 0 rfl hK15) rfl (eqA a_1 b_2 T4.Q79 rfl rfl rfl (m1 rfl ?_))))
  by_cases hb28 : a_1 = b_2
  ·have hr29 := if_p hb28 hx26
   refine gf' hb28 rfl (gf' hb28 rfl (gf' hb28 rfl (gf' hb28 rfl (gf' hb28 rfl (gf' hb28 rfl (gU rfl rfl rfl (gU rfl rfl rfl (gU rfl rfl rfl (gU rfl rfl rfl (gU rfl rfl rfl (gU rfl rfl rfl ?_)))))))))))
   refine gU rfl rfl rfl (gU rfl rfl rfl (gU rfl rfl rfl (gU rfl rfl rfl (gf' hb28 rfl (pt hb28 rfl rfl (a1 rfl (on ?_)))))))
   cases hr29
   exact cu ⟨rfl, tv⟩
  ·have hr30 := if_n hb28 hx26
   refine gt' hb28 rfl (fb 0 U79 rfl rfl rfl rfl Z5 (gt' hb28 rfl (ld G5 rfl rfl ((sS 1 rfl hK12).take 1) rfl (gt' hb28 rfl (fb 0 U79 rfl rfl rfl rfl Z5 (gt' hb28 rfl (ld G5 rfl rfl ((sS 0 rfl hK15).take 1) rfl (gt' hb28 rfl (eqI rfl rfl rfl (gt' hb28 rfl (m1 rfl ?_)))))))))))
   by_cases hb31 : a_1.kind = b_2.kind
   ·have hr32 := if_p hb31 hr30
    refine gt hb31 rfl (fb 1 U117 rfl rfl rfl rfl Z38 (gt hb31 rfl (ld G38 rfl rfl ((sS 2 rfl hK9).drop 1) rfl (gt hb31 rfl (fb 0 U79 rfl rfl rfl rfl Z5 (gt hb31 rfl (ld G5 rfl rfl ((sS 1 rfl hK12).take 1) rfl (gt hb31 rfl (fb 1 U79 rfl rfl rfl rfl Z3 (gt hb31 rfl (ld G3 rfl rfl ((sS 1 rfl hK12).drop 1) rfl ?_)))))))))))
    refine gt hb31 rfl (fb 1 U79 rfl rfl rfl rfl Z3 (gt hb31 rfl (ld G3 rfl rfl ((sS 0 rfl hK15).drop 1) rfl (gt hb31 rfl (bu (cs := [.int .u8 a_1.kind, .int .i64 a_1.value, .int .i64 b_2.value]) T4.B109 rfl rfl rfl (gt hb31 rfl ?_))))))
    obtain ⟨r33, hx34, hr35⟩ := bd_some hr32
    refine clS C106 rfl rfl rfl rfl (fun w H hH le => w106 hH (hl5.mono (Flat.mono _) (le.at 3 rfl)) (⟨a_1.kind, a_1.value, b_2.value⟩ : Swap) rfl hx34) (gt' hb28 rfl (pt hb31 rfl rfl (pf hb28 rfl rfl (a1 rfl (on ?_)))))
    cases hr35
    exact cu ⟨rfl, tv⟩
   ·have hr36 := if_n hb31 hr30
    refine gf hb31 rfl (gf hb31 rfl (gf hb31 rfl (gf hb31 rfl (gf hb31 rfl (gf hb31 rfl (gf hb31 rfl (gf hb31 rfl (gf hb31 rfl (gf hb31 rfl (gt' hb28 rfl (pf hb31 rfl rfl ?_)))))))))))
    refine pf hb28 rfl rfl (a1 rfl (on ?_))
    cases hr36
    exact cu ⟨rfl, tv⟩
 ·rintro a w ⟨hS, hA⟩
  refine TG.ap ?_ hS hA
  refine rt_ ?_
  cases hr27
  intro a w hS hA
  refine ret1 hA rfl rfl ?_
  exact ⟨rfl, hS.ext⟩

theorem w53 {M : Prop} {W : World} {H : Hp} (hH : H.le (hp W)) {cs_r_0 : List Value} (r_0 : rules) (h_r_0 : (Rrules) H cs_r_0 r_0) {ad_a_1 : Option Addr} {cap_a_1 : Nat} {a_1 : List Mark} (h_a_1 : Sl (Flat encMark) 2 H ad_a_1 cap_a_1 a_1) {ad_b_2 : Option Addr} {cap_b_2 : Nat} {b_2 : List Mark} (h_b_2 : Sl (Flat encMark) 2 H ad_b_2 cap_b_2 b_2) {r : Int} (hr : m53 r_0 a_1 b_2 = some r) : Calls Tryz.prog 53 [.agg cs_r_0.toArray, .slice ad_a_1 a_1.length cap_a_1, .slice ad_b_2 b_2.length cap_b_2].toArray W (RetS M W (.int .i64 r)) := by
 have hh_r_0 := h_r_0
 obtain ⟨mp1, ad3, cap4, rfl, hm2, hl5⟩ := h_r_0
 have := hl5.len
 have := h_a_1.len
 have := h_b_2.len
 unfold m53 at hr
 refine enterG (M := M) Tryz.func53 rfl Tryz.ntmps53 rfl hH ?_
 refine sq (rg ?_)
 obtain ⟨b6, rfl⟩ := Mp.isMap hm2
 refine bI (cs := [.map b6, .slice ad3 r_0.swaps.length cap4]) rfl rfl rfl fun q7 K8 hK9 => (a1 rfl (on (sq (rg (al 1 (cs := [.slice none 0 0, .slice none 0 0]) Tryz.zeroValue151 rfl rfl fun b10 => (on (sq (sq (rg (m1 rfl (lnL U49 rfl rfl ?_)))))))))))
 obtain ⟨hk11, hr12⟩ := chk_some hr
 refine adI rfl rfl rfl hk11 (m1 rfl (on (TG.nilRow 3 3 1 (TG.as 3 (z := Own.list none 0 3 1 (encI .i64) ([] : List Int)) rfl rfl ?_))))
 obtain ⟨e52, hl53, hr54⟩ := bd_some hr12
 refine jn (fun a w => ∃ (ad55 : Option Addr) (cap56 : Nat), St M W H [K8, H] [(3, Own.list ad55 cap56 3 1 (encI .i64) e52), (1, cel b10 151 [.slice ad55 e52.length cap56, .slice none 0 0])] w ∧ Has [] 88 a [(1, .slice ad_a_1 a_1.length cap_a_1), (2, .slice ad_b_2 b_2.length cap_b_2), (3, .pointer (some q7)), (7, .pointer (some (⟨b10, 0, none⟩)))]) ?_ ?_
 ·refine bk ?_
  refine lp hl53 (fun s57 a w => ∃ (ad58 : Option Addr) (cap59 : Nat), St M W H [K8, H] [(3, Own.list ad58 cap59 3 1 (encI .i64) s57.2), (1, cel b10 151 [.slice ad58 s57.2.length cap59, .slice none 0 0])] w ∧ Has [] 88 a [(1, .slice ad_a_1 a_1.length cap_a_1), (2, .slice ad_b_2 b_2.length cap_b_2), (3, .pointer (some q7)), (7, .pointer (some (⟨b10, 0, none⟩))), (16, .int .i64 ((b_2.length : Int) + 1)), (17, .int .i64 (s57.1 : Int))]) ?_ ?_
  ·intro a w hS hA
   exact ⟨none, 0, hS, hA.cut ⟨rfl, rfl, rfl, rfl, rfl, rfl, tv⟩⟩
  ·rintro j s57 y62 hr60 hz61 a w ⟨ad58, cap59, hS, hA⟩
   refine TG.ap ?_ hS hA
   unfold m53_1 at hr60
   refine sq (rg (ltI rfl rfl rfl (on (sq ?_))))
   refine ci rfl (fun hc66 => ?_) (fun hc66 => ?_)
   ·have hr67 := if_p hc66 hr60
    refine sk (sq (bk (sq (rg (m1 rfl (a1 rfl (on (rg (iaA U151 Z86 rfl rfl rfl (j := 0) rfl (by decide) (ld G86 rfl rfl ((sO 1 rfl).take 1) rfl (m1 rfl ?_)))))))))))
    obtain ⟨hk73, hr74⟩ := chk_some hr67
    have := lenA s57.2 [(s57.1 : Int)]
    refine ap1 3 (encI .i64) (l := s57.2) (s57.1 : Int) T4.E86 rfl rfl rfl rfl rfl rfl rfl rfl rfl rfl rfl rfl hk73 fun ad75 cap76 u77 => (iaA U151 Z86 rfl rfl rfl (j := 0) rfl (by decide) (sto 1 (cs := [.slice ad75 ((s57.2 ++ [(s57.1 : Int)]).length) cap76]) Z86 rfl rfl rfl rfl rfl rfl rfl (on (rg ?_))))
    obtain ⟨hk78, hr79⟩ := chk_some hr74
    refine adI rfl rfl rfl hk78 (m1 rfl (on ?_))
    cases hr79
    intro a w hS hA
    exact ⟨_, hz61, ad75, cap76, hS, hA.cut ⟨rfl, rfl, rfl, rfl, rfl, rfl, tv⟩⟩
   ·have hr80 := if_n hc66 hr60
    refine xt rfl ?_
    cases hr80
    obtain rfl := Fin.out hz61
    intro a w hS hA
    exact ⟨ad58, cap59, hS, hA.cut ⟨rfl, rfl, rfl, rfl, tv⟩⟩
 ·rintro a w ⟨ad55, cap56, hS, hA⟩
  refine TG.ap ?_ hS hA
  refine sq (sq (rg (m1 rfl (lnL U49 rfl rfl (m1 rfl (on (TG.nilRow 7 3 1 (TG.still 3 rfl (fun _ => rfl) fun K435 hl436 => ?_))))))))
  have := hl436.len
  refine TG.del 7 ?_
  obtain ⟨e653, hl654, hr655⟩ := bd_some hr54
  refine jn (fun a w => ∃ (ad656 : Option Addr) (cap657 : Nat) (K658 : Hp) (ad660 : Option Addr) (cap661 : Nat) (K662 : Hp), St M W H [K658, K662, K435, K8, H] [(1, cel b10 151 [.slice ad656 e653.1.length cap657, .slice ad660 e653.2.length cap661])] w ∧ Has [] 88 a [(2, .slice ad_b_2 b_2.length cap_b_2), (7, .pointer (some (⟨b10, 0, none⟩)))] ∧ Sl (Flat (encI .i64)) 1 K658 ad656 cap657 e653.1 ∧ Sl (Flat (encI .i64)) 1 K662 ad660 cap661 e653.2) ?_ ?_
  ·refine bk ?_
   refine lp hl654 (fun s664 a w => ∃ (ad665 : Option Addr) (cap666 : Nat) (K667 : Hp) (ad669 : Option Addr) (cap670 : Nat) (K671 : Hp), St M W H [K667, K671, K435, K8, H] [(1, cel b10 151 [.slice ad665 s664.2.1.length cap666, .slice ad669 s664.2.2.length cap670])] w ∧ Has [] 88 a [(2, .slice ad_b_2 b_2.length cap_b_2), (3, .pointer (some q7)), (7, .pointer (some (⟨b10, 0, none⟩))), (27, .slice ad_a_1 a_1.length cap_a_1), (28, .int .i64 (a_1.length : Int)), (29, .int .i64 (s664.1 : Int))] ∧ Sl (Flat (encI .i64)) 1 K667 ad665 cap666 s664.2.1 ∧ Sl (Flat (encI .i64)) 1 K671 ad669 cap670 s664.2.2) ?_ ?_
   ·intro a w hS hA
    exact ⟨ad55, cap56, K435, none, 0, H, hS.selH [0, 2, 0, 1, 2] rfl, hA.cut ⟨rfl, rfl, rfl, rfl, rfl, rfl, tv⟩, hl436, (Sl.nil _ _ H _ _ (by decide))⟩
   ·rintro j s664 y675 hr673 hz674 a w ⟨ad665, cap666, K667, ad669, cap670, K671, hS, hA, hl668, hl672⟩
    refine TG.ap ?_ hS hA
    unfold m53_2 at hr673
    have := hl668.len
    have := hl672.len
    refine sq (rg (ltI rfl rfl rfl (on (sq ?_))))
    refine ci rfl (fun hc679 => ?_) (fun hc679 => ?_)
    ·have hr680 := if_p hc679 hr673
     refine sk (sq (bk (sq (rg (m1 rfl ?_)))))
     obtain ⟨x877, hx878, hr879⟩ := bd_some hr680
     obtain ⟨p880, rfl⟩ := h_a_1.adr hx878
     obtain ⟨cs881, hcs882, hq883, hr884⟩ := h_a_1.at hx878
     obtain rfl := hr884
     refine iaP U49 Z79 rfl rfl rfl rfl (lt_of hx878) (ldA G79 Z79 rfl rfl (sS 4 rfl hq883) rfl (al 4 (cs := [.int .u8 0, .int .i64 0]) Tryz.zeroValue79 rfl rfl fun b885 => (a1 rfl (sto 4 (cs := [.int .u8 x877.kind, .int .i64 x877.value]) Z79 rfl rfl rfl rfl rfl rfl rfl (on (sq (rg (m1 rfl (adI rfl rfl rfl (by omega) (bSL 5 (encI .i64) ([((s664.1 : Int) + 1)] : List Int) (cs := [.int .i64 ((s664.1 : Int) + 1)]) T4.E86 rfl rfl rfl rfl rfl rfl fun b886 => (iaA U151 Z86 rfl rfl rfl (j := 1) rfl (by decide) ?_)))))))))))
     refine sto 1 (cs := [.slice (some ⟨b886, 0, none⟩) (([((s664.1 : Int) + 1)] : List Int).length) 1]) Z86 rfl rfl rfl rfl rfl rfl rfl (on (sq (sq (rg (m1 rfl (lnL U49 rfl rfl (m1 rfl (on ?_))))))))
     obtain ⟨e1070, hl1071, hr1072⟩ := bd_some hr879
     refine jn (fun a w => ∃ (ad1073 : Option Addr) (cap1074 : Nat), St M W H [K667, K671, K435, K8, H] [(5, Own.list ad1073 cap1074 3 1 (encI .i64) e1070), (4, cel b885 79 [.int .u8 x877.kind, .int .i64 x877.value]), (1, cel b10 151 [.slice ad665 s664.2.1.length cap666, .slice ad1073 e1070.length cap1074])] w ∧ Has [] 88 a [(2, .slice ad_b_2 b_2.length cap_b_2), (3, .pointer (some q7)), (7, .pointer (some (⟨b10, 0, none⟩))), (27, .slice (some p880) a_1.length cap_a_1), (28, .int .i64 (a_1.length : Int)), (29, .int .i64 (s664.1 : Int))]) ?_ ?_
     ·refine bk ?_
      refine lp hl1071 (fun s1075 a w => ∃ (ad1076 : Option Addr) (cap1077 : Nat), St M W H [K667, K671, K435, K8, H] [(5, Own.list ad1076 cap1077 3 1 (encI .i64) s1075.2), (4, cel b885 79 [.int .u8 x877.kind, .int .i64 x877.value]), (1, cel b10 151 [.slice ad665 s664.2.1.length cap666, .slice ad1076 s1075.2.length cap1077])] w ∧ Has [] 88 a [(2, .slice ad_b_2 b_2.length cap_b_2), (3, .pointer (some q7)), (7, .pointer (some (⟨b10, 0, none⟩))), (10, .pointer (some (⟨b885, 0, none⟩))), (27, .slice (some p880) a_1.length cap_a_1), (28, .int .i64 (a_1.length : Int)), (29, .int .i64 (s664.1 : Int)), (38, .slice ad_b_2 b_2.length cap_b_2), (39, .int .i64 (b_2.length : Int)), (40, .int .i64 (s1075.1 : Int))]) ?_ ?_
      ·intro a w hS hA
       exact ⟨(some ⟨b886, 0, none⟩), 1, hS, hA.cut ⟨rfl, rfl, rfl, rfl, rfl, rfl, rfl, rfl, rfl, rfl, tv⟩⟩
      ·rintro j s1075 y1080 hr1078 hz1079 a w ⟨ad1076, cap1077, hS, hA⟩
       refine TG.ap ?_ hS hA
       unfold m53_3 at hr1078
       refine sq (rg (ltI rfl rfl rfl (on (sq ?_))))
       refine ci rfl (fun hc1084 => ?_) (fun hc1084 => ?_)
       ·have hr1085 := if_p hc1084 hr1078
        refine sk (sq (bk (sq (rg (m1 rfl ?_)))))
        obtain ⟨x1142, hx1143, hr1144⟩ := bd_some hr1085
        obtain ⟨p1145, rfl⟩ := h_b_2.adr hx1143
        obtain ⟨cs1146, hcs1147, hq1148, hr1149⟩ := h_b_2.at hx1143
        obtain rfl := hr1149
        refine iaP U49 Z79 rfl rfl rfl rfl (lt_of hx1143) (ldA G79 Z79 rfl rfl (sS 4 rfl hq1148) rfl (al 6 (cs := [.int .u8 0, .int .i64 0]) Tryz.zeroValue79 rfl rfl fun b1150 => (a1 rfl (sto 6 (cs := [.int .u8 x1142.kind, .int .i64 x1142.value]) Z79 rfl rfl rfl rfl rfl rfl rfl (on (sq (rg (iaA U151 Z86 rfl rfl rfl (j := 0) rfl (by decide) (ld G86 rfl rfl ((sO 1 rfl).take 1) rfl (m1 rfl ?_))))))))))
        obtain ⟨x1151, hx1152, hr1153⟩ := bd_some hr1144
        obtain ⟨p1154, rfl⟩ := hl668.adr hx1152
        obtain ⟨cs1155, hcs1156, hq1157, hr1158⟩ := hl668.at hx1152
        obtain rfl := hr1158
        refine iaP U86 Z3 rfl rfl rfl rfl (lt_of hx1152) (ld G3 rfl rfl (sS 0 rfl hq1157) rfl ?_)
        obtain ⟨hk1159, hr1160⟩ := chk_some hr1153
        refine adI rfl rfl rfl hk1159 (a1 rfl (on (sq (sq (rg (ldA G117 Z117 rfl rfl (sS 3 rfl hK9) rfl (ldA G79 Z79 rfl rfl (sO 4 rfl) rfl (ldA G79 Z79 rfl rfl (sO 6 rfl) rfl ?_))))))))
        obtain ⟨r1161, hx1162, hr1163⟩ := bd_some hr1160
        refine clS C79 rfl rfl rfl rfl (fun w H hH le => w79 hH r_0 (Rrules.mono _ _ _ _ (le.at 4 rfl) hh_r_0) x877 rfl x1142 rfl hx1162) (on ?_)
        obtain ⟨t1169, hx1170, hr1171⟩ := bd_some hr1163
        refine jn (fun a w => St M W H [K667, K671, K435, K8, H] [(6, cel b1150 79 [.int .u8 x1142.kind, .int .i64 x1142.value]), (5, Own.list ad1076 cap1077 3 1 (encI .i64) s1075.2), (4, cel b885 79 [.int .u8 x877.kind, .int .i64 x877.value]), (1, cel b10 151 [.slice (some p1154) s664.2.1.length cap666, .slice ad1076 s1075.2.length cap1077])] w ∧ Has [] 88 a [(2, .slice (some p1145) b_2.length cap_b_2), (3, .pointer (some q7)), (7, .pointer (some (⟨b10, 0, none⟩))), (10, .pointer (some (⟨b885, 0, none⟩))), (11, .int .i64 (s1075.1 : Int)), (13, .int .i64 t1169), (27, .slice (some p880) a_1.length cap_a_1), (28, .int .i64 (a_1.length : Int)), (29, .int .i64 (s664.1 : Int)), (38, .slice (some p1145) b_2.length cap_b_2), (39, .int .i64 (b_2.length : Int)), (40, .int .i64 (s1075.1 : Int))]) ?_ ?_
        ·refine cb rfl (fun hc1172 => ?_) (fun hc1172 => ?_)
         ·have hr1173 := if_p hc1172 hx1170
          refine rg (m1 rfl ?_)
          obtain ⟨hk1174, hr1175⟩ := chk_some hr1173
          refine sbI rfl rfl rfl hk1174 (a1 rfl (on ?_))
          cases hr1175
          exact cu ⟨rfl, rfl, rfl, rfl, rfl, rfl, rfl, rfl, rfl, rfl, rfl, rfl, tv⟩
         ·have hr1176 := if_f hc1172 hx1170
          refine sk ?_
          cases hr1176
          exact cu ⟨rfl, rfl, rfl, rfl, rfl, rfl, rfl, rfl, rfl, rfl, rfl, rfl, tv⟩
        ·rintro a w ⟨hS, hA⟩
         refine TG.ap ?_ hS hA
         obtain ⟨x1177, hx1178, hr1179⟩ := bd_some hr1171
         obtain ⟨cs1180, hcs1181, hq1182, hr1183⟩ := hl668.at hx1178
         obtain rfl := hr1183
         obtain ⟨hk1184, hr1185⟩ := chk_some hr1179
         obtain ⟨x1186, hx1187, hr1188⟩ := bd_some hr1185
         refine TG.addr 5 rfl (lt_of0 hx1187) fun b1189 h => ?_; subst h
         obtain ⟨hk1190, hr1191⟩ := chk_some hr1188
         refine drG 18 mixed (by kernel_rfl) rfl (dt rfl (iaA U151 Z86 rfl rfl rfl (j := 1) rfl (by decide) fin1) (dt rfl (ld G86 rfl rfl ((sO 1 rfl).drop 1) rfl fin1) (dt rfl (m1 rfl fin1) (dt rfl (iaA U151 Z86 rfl rfl rfl (j := 0) rfl (by decide) fin1) (dt rfl (ld G86 rfl rfl ((sO 1 rfl).take 1) rfl fin1) (dt rfl (m1 rfl fin1) (dt rfl (adI rfl rfl rfl (by omega) fin1) (dt rfl (iaP U86 Z3 rfl rfl rfl (by omega) (lt_of hx1178) fin1) (dt rfl (ld G3 rfl rfl (sS 1 rfl hq1182) rfl fin1) (dt rfl (adI rfl rfl rfl hk1184 fin1) (dt rfl (iaA U151 Z86 rfl rfl rfl (j := 1) rfl (by decide) fin1) ?_)))))))))))
         refine dt rfl (ld G86 rfl rfl ((sO 1 rfl).drop 1) rfl fin1) (dt rfl (m1 rfl fin1) (dt rfl (iaP U86 Z3 rfl rfl rfl rfl (lt_of hx1187) fin1) (dt rfl (ld G3 rfl rfl (sE 5 rfl (fun _ => rfl) hx1187) rfl fin1) (dt rfl (adI rfl rfl rfl hk1190 fin1) (dt rfl (mn3 rfl rfl rfl rfl fin1) ?_)))))
         refine DF.und (α := Option Addr × Nat) (none, 0) (fun q => .slice q.1 1 q.2) (fun (q : Option Addr × Nat) K => Sl (Flat (encI .i64)) 1 K q.1 q.2 ([(min (min t1169 (x1177 + 1)) (x1186 + 1))] : List Int)) (fun _ _ _ h x => x.mono (Flat.mono _) h) (by kernel_rfl) rfl (fun a w K hS hA hF => TG.pa hS hA (bS (cs := [.int .i64 (min (min t1169 (x1177 + 1)) (x1186 + 1))]) T4.E86 rfl rfl rfl rfl fun q1192 K1193 hq1194 hK1195 => by
           have hl1196 : Sl (Flat (encI .i64)) 1 K1193 (some q1192) 1 ([(min (min t1169 (x1177 + 1)) (x1186 + 1))] : List Int) := Sl.litR (css := [[.int .i64 (min (min t1169 (x1177 + 1)) (x1186 + 1))]]) (l := ([(min (min t1169 (x1177 + 1)) (x1186 + 1))] : List Int)) ⟨⟨rfl, rfl, rfl⟩, tv⟩ hq1194 hK1195 rfl
           have := hl1196.len
           exact finU (f := fun q => .slice q.1 1 q.2) (G := (fun (q : Option Addr × Nat) K => Sl (Flat (encI .i64)) 1 K q.1 q.2 ([(min (min t1169 (x1177 + 1)) (x1186 + 1))] : List Int))) (_, _) (fun _ _ _ h x => x.mono (Flat.mono _) h) hl1196)) ?_
         rintro ⟨ad1198, cap1199⟩
         refine DF.nil fun K1200 hF => ?_
         obtain ⟨hu1197, _⟩ := hF
         have := hu1197.len
         obtain ⟨hk1201, hr1202⟩ := chk_some hr1191
         have := lenA s1075.2 ([(min (min t1169 (x1177 + 1)) (x1186 + 1))] : List Int)
         refine apS 5 (enc := encI .i64) (l := s1075.2) (m := ([(min (min t1169 (x1177 + 1)) (x1186 + 1))] : List Int)) T4.E86 rfl rfl rfl rfl rfl rfl hu1197 0 rfl (fun _ => rfl) (fun _ => rfl) rfl hk1201 fun ad1203 cap1204 => (iaA U151 Z86 rfl rfl rfl (j := 1) rfl (by decide) (sto 1 (cs := [.slice ad1203 ((s1075.2 ++ ([(min (min t1169 (x1177 + 1)) (x1186 + 1))] : List Int)).length) cap1204]) Z86 rfl rfl rfl rfl rfl rfl rfl (on (rg (adI rfl rfl rfl (by omega) (m1 rfl (on (TG.del 6 ?_))))))))
         cases hr1202
         intro a w hS hA
         exact ⟨_, hz1079, ad1203, cap1204, hS.selH [1, 2, 3, 4, 5] rfl, hA.cut ⟨rfl, rfl, rfl, rfl, rfl, rfl, rfl, rfl, rfl, rfl, tv⟩⟩
       ·have hr1205 := if_n hc1084 hr1078
        refine xt rfl ?_
        cases hr1205
        obtain rfl := Fin.out hz1079
        intro a w hS hA
        exact ⟨ad1076, cap1077, hS, hA.cut ⟨rfl, rfl, rfl, rfl, rfl, rfl, tv⟩⟩
     ·rintro a w ⟨ad1073, cap1074, hS, hA⟩
      refine TG.ap ?_ hS hA
      refine rg (iaA U151 Z86 rfl rfl rfl (j := 1) rfl (by decide) (ld G86 rfl rfl ((sO 1 rfl).drop 1) rfl (iaA U151 Z86 rfl rfl rfl (j := 0) rfl (by decide) (sto 1 (cs := [.slice ad1073 e1070.length cap1074]) Z86 rfl rfl rfl rfl rfl rfl rfl (on (rg (adI rfl rfl rfl (by omega) (m1 rfl (on (TG.still 5 rfl (fun _ => rfl) fun K1206 hl1207 => ?_))))))))))
      have := hl1207.len
      refine TG.del 4 ?_
      cases hr1072
      intro a w hS hA
      exact ⟨_, hz674, ad1073, cap1074, K1206, ad1073, cap1074, K1206, hS.selH [0, 0, 3, 4, 5] rfl, hA.cut ⟨rfl, rfl, rfl, rfl, rfl, rfl, tv⟩, hl1207, hl1207⟩
    ·have hr1208 := if_n hc679 hr673
     refine xt rfl ?_
     cases hr1208
     obtain rfl := Fin.out hz674
     intro a w hS hA
     exact ⟨ad665, cap666, K667, ad669, cap670, K671, hS, hA.cut ⟨rfl, rfl, tv⟩, hl668, hl672⟩
  ·rintro a w ⟨ad656, cap657, K658, ad660, cap661, K662, hS, hA, hl659, hl663⟩
   refine TG.ap ?_ hS hA
   have := hl659.len
   have := hl663.len
   refine sq (rg (iaA U151 Z86 rfl rfl rfl (j := 0) rfl (by decide) (ld G86 rfl rfl ((sO 1 rfl).take 1) rfl (m1 rfl (lnL U49 rfl rfl ?_)))))
   obtain ⟨x1209, hx1210, hr1211⟩ := bd_some hr655
   obtain ⟨p1212, rfl⟩ := hl659.adr hx1210
   obtain ⟨cs1213, hcs1214, hq1215, hr1216⟩ := hl659.at hx1210
   obtain rfl := hr1216
   refine iaP U86 Z3 rfl rfl rfl rfl (lt_of hx1210) (ld G3 rfl rfl (sS 0 rfl hq1215) rfl (a1 rfl (on (rt_ ?_))))
   cases hr1211
   intro a w hS hA
   refine ret1 hA rfl rfl ?_
   exact ⟨rfl, hS.ext⟩

theorem w18 {M : Prop} {W : World} {H : Hp} (hH : H.le (hp W)) (hg : Gv M H) {cs_l_0 : List Value} (l_0 : Lexicon) (h_l_0 : (RLexicon) H cs_l_0 l_0) {ad_swaps : Option Addr} {cap_swaps : Nat} {swaps : List Swap} (h_swaps : Sl (Flat encSwap) 3 H ad_swaps cap_swaps swaps) {ad_old_2 : Option Addr} {cap_old_2 : Nat} {old_2 : List Bytes} (h_old_2 : Sl (Flat encS) 1 H ad_old_2 cap_old_2 old_2) {ad_new_3 : Option Addr} {cap_new_3 : Nat} {new_3 : List Bytes} (h_new_3 : Sl (Flat encS) 1 H ad_new_3 cap_new_3 new_3) {r : Int × Int} (hr : m18 l_0 swaps old_2 new_3 = some r) : Calls Tryz.prog 18 [.agg cs_l_0.toArray, .slice ad_swaps swaps.length cap_swaps, .slice ad_old_2 old_2.length cap_old_2, .slice ad_new_3 new_3.length cap_new_3].toArray W (RetS M W (.tuple [.int .i64 r.1, .int .i64 r.2].toArray)) := by
 have hh_l_0 := h_l_0
 obtain ⟨ad1, cap2, ad4, cap5, ad7, cap8, rfl, hl3, hl6, hl9⟩ := h_l_0
 have := hl3.len
 have := hl6.len
 have := hl9.len
 have := h_swaps.len
 have := h_old_2.len
 have := h_new_3.len
 unfold m18 at hr
 refine enterG (M := M) Tryz.func18 rfl Tryz.ntmps18 rfl hH ?_
 refine sq (rg (bI (cs := [.slice ad1 l_0.numbers.length cap2, .slice ad4 l_0.names.length cap5, .slice ad7 l_0.nots.length cap8]) rfl rfl rfl fun q10 K11 hK12 => (a1 rfl (a1 rfl (on (sq (rg (ldA G36 Z36 rfl rfl (sS 0 rfl hK12) rfl (m1 rfl ?_)))))))))
 obtain ⟨r13, hx14, hr15⟩ := bd_some hr
 refine clK C51 rfl rfl rfl rfl (fun w H hH le => w51 hH l_0 (RLexicon.mono _ _ _ _ (le.at 1 rfl) hh_l_0) (h_swaps.mono (Flat.mono _) (le.at 1 rfl)) hx14) ?_
 rintro v_ K16 ⟨cs17, rfl, hr18⟩
 have hr19 := hr18
 obtain ⟨mp20, ad22, cap23, rfl, hm21, hl24⟩ := hr18
 have := hl24.len
 refine m1 rfl (ex rfl rfl rfl (ex rfl rfl rfl ?_))
 obtain ⟨b25, rfl⟩ := Mp.isMap hm21
 refine va (cs := [.map b25, .slice ad22 r13.1.swaps.length cap23]) Tryz.zeroValue117 Z117 rfl rfl rfl rfl rfl rfl rfl rfl fun q26 K27 hK28 => (a1 rfl (on (sq (sq (rg (m1 rfl (neI rfl rfl rfl (on ?_))))))))
 refine ci rfl (fun hc32 => ?_) (fun hc32 => ?_)
 ·have hr33 := if_p hc32 hr15
  refine sq (rg (m1 rfl (a1 rfl (a1 rfl (on (rt_ ?_))))))
  cases hr33
  intro a w hS hA
  refine ret2 hA rfl rfl rfl ?_
  exact ⟨rfl, hS.ext⟩
 ·have hr34 := if_n hc32 hr15
  refine sk (sq (sq (rg (m1 rfl (m1 rfl (bS (cs := [.slice ad_old_2 old_2.length cap_old_2, .slice ad_new_3 new_3.length cap_new_3]) T4.E23 rfl rfl rfl rfl fun q35 K36 hq37 hK38 => (TG.pack (fun K => Sl (RSl (Flat encS) 1) 1 K (some q35) 2 ([old_2, new_3] : List (List Bytes))) (fun H le => Sl.litR (css := [[.slice ad_old_2 old_2.length cap_old_2], [.slice ad_new_3 new_3.length cap_new_3]]) (l := ([old_2, new_3] : List (List Bytes))) ⟨⟨rfl, rfl, ⟨_, _, rfl, (h_old_2.mono (Flat.mono _) (le.at 4 rfl))⟩⟩, ⟨rfl, rfl, ⟨_, _, rfl, (h_new_3.mono (Flat.mono _) (le.at 4 rfl))⟩⟩, tv⟩ hq37 (hK38.mono (le.at 0 rfl)) rfl) fun K40 hl39 => ?_)))))))
  have := hl39.len
  obtain ⟨r41, hx42, hr43⟩ := bd_some hr34
  refine clS C52 rfl rfl rfl rfl (fun w H hH le => w52 hH (hl39.mono (RSl.mono (Flat.mono _)) (le.at 0 rfl)) hx42) (a1 rfl (on (sq (rg (m1 rfl (neI rfl rfl rfl (on ?_)))))))
  refine ci rfl (fun hc47 => ?_) (fun hc47 => ?_)
  ·have hr48 := if_p hc47 hr43
   refine sq (rg (m1 rfl (a1 rfl (a1 rfl (on (rt_ ?_))))))
   cases hr48
   intro a w hS hA
   refine ret2 hA rfl rfl rfl ?_
   exact ⟨rfl, hS.ext⟩
  ·have hr49 := if_n hc47 hr43
   refine sk (sq ?_)
   obtain ⟨r50, hx51, hr52⟩ := bd_some hr49
   obtain ⟨r60, hx61, hr62⟩ := bd_some hr52
   refine drG 9 mixed (by kernel_rfl) rfl (dt rfl (ldA G117 Z117 rfl rfl (sS 3 rfl hK28) rfl fin1) (dt rfl (fb 0 U117 rfl rfl rfl rfl Z115 fin1) (dt rfl (ld G115 rfl rfl ((sS 3 rfl hK28).take 1) rfl fin1) (dt rfl (m1 rfl fin1) ?_))))
   refine DF.und (α := Option Addr × Nat) (none, 0) (fun q => .slice q.1 r50.length q.2) (fun (q : Option Addr × Nat) K => Sl (Flat encMark) 2 K q.1 q.2 r50) (fun _ _ _ h x => x.mono (Flat.mono _) h) (by kernel_rfl) rfl (fun a w K hS hA hF => TG.pa hS hA (clK C54 rfl rfl rfl rfl (fun w H hH le => w54 hH (hg.mono (le.at 6 rfl)) (m_0 := r13.1.meanings) (hm21.mono (le.at 4 rfl)) (h_old_2.mono (Flat.mono _) (le.at 6 rfl)) hx51) (by
     rintro v_ K53 ⟨ad54, cap55, rfl, hl56⟩
     exact finU (f := fun q => .slice q.1 r50.length q.2) (G := (fun (q : Option Addr × Nat) K => Sl (Flat encMark) 2 K q.1 q.2 r50)) (_, _) (fun _ _ _ h x => x.mono (Flat.mono _) h) hl56))) ?_
   rintro ⟨ad58, cap59⟩
   refine dt rfl (fb 0 U117 rfl rfl rfl rfl Z115 fin1) (dt rfl (ld G115 rfl rfl ((sS 3 rfl hK28).take 1) rfl fin1) (dt rfl (m1 rfl fin1) ?_))
   refine DF.und (α := Option Addr × Nat) (none, 0) (fun q => .slice q.1 r60.length q.2) (fun (q : Option Addr × Nat) K => Sl (Flat encMark) 2 K q.1 q.2 r60) (fun _ _ _ h x => x.mono (Flat.mono _) h) (by kernel_rfl) rfl (fun a w K hS hA hF => TG.pa hS hA (clK C54 rfl rfl rfl rfl (fun w H hH le => w54 hH (hg.mono (le.at 6 rfl)) (m_0 := r13.1.meanings) (hm21.mono (le.at 4 rfl)) (h_new_3.mono (Flat.mono _) (le.at 6 rfl)) hx61) (by
     rintro v_ K63 ⟨ad64, cap65, rfl, hl66⟩
     exact finU (f := fun q => .slice q.1 r60.length q.2) (G := (fun (q : Option Addr × Nat) K => Sl (Flat encMark) 2 K q.1 q.2 r60)) (_, _) (fun _ _ _ h x => x.mono (Flat.mono _) h) hl66))) ?_
   rintro ⟨ad68, cap69⟩
   refine DF.nil fun K70 hF => ?_
   obtain ⟨hu67, hu57, _⟩ := hF
   have := hu57.len
   have := hu67.len
   obtain ⟨r71, hx72, hr73⟩ := bd_some hr62
   refine clS C53 rfl rfl rfl rfl (fun w H hH le => w53 hH r13.1 (Rrules.mono _ _ _ _ (le.at 4 rfl) hr19) (hu57.mono (Flat.mono _) (le.at 0 rfl)) (hu67.mono (Flat.mono _) (le.at 0 rfl)) hx72) (a1 rfl (a1 rfl (on (rt_ ?_))))
   cases hr73
   intro a w hS hA
   refine ret2 hA rfl rfl rfl ?_
   exact ⟨rfl, hS.ext⟩

theorem w49 {M : Prop} {W : World} {H : Hp} (hH : H.le (hp W))  {r : Report × List Request} (hr : m49 = some r) : Calls Tryz.prog 49 [].toArray W (RetK M H W (fun v K => ∃ (cs0 : List Value) (ad1 : Option Addr) (cap1 : Nat), v = .tuple [.agg cs0.toArray, .slice ad1 r.2.length cap1].toArray ∧ (RReport) K cs0 r.1 ∧ Sl (RRequest) 5 K ad1 cap1 r.2)) := by
 unfold m49 at hr
 refine enterG (M := M) Tryz.func49 rfl Tryz.ntmps49 rfl hH ?_
 refine sq (rg (al 1 (cs := [.slice none 0 0, .int .i64 0, .int .i64 0]) Tryz.zeroValue56 rfl rfl fun b1 => (a1 rfl (on (sq (rg (bu (cs := [.string (bs [83, 109, 105, 116, 104]), .int .i64 1]) T4.B58 rfl rfl rfl (bu (cs := [.string (bs [112, 97, 105, 100]), .int .i64 1]) T4.B58 rfl rfl rfl (bu (cs := [.string (bs [116, 101, 110]), .int .i64 1]) T4.B58 rfl rfl rfl (bu (cs := [.string (bs [121, 101, 115]), .int .i64 2]) T4.B58 rfl rfl rfl (bS (cs := [.string (bs [83, 109, 105, 116, 104]), .int .i64 1, .string (bs [112, 97, 105, 100]), .int .i64 1, .string (bs [116, 101, 110]), .int .i64 1, .string (bs [121, 101, 115]), .int .i64 2]) T4.E54 rfl rfl rfl rfl fun q2 K3 hq4 hK5 => ?_)))))))))))
 have hl6 : Sl (Flat encSaid) 2 K3 (some q2) 4 ([(⟨[83, 109, 105, 116, 104], 1⟩ : Said), (⟨[112, 97, 105, 100], 1⟩ : Said), (⟨[116, 101, 110], 1⟩ : Said), (⟨[121, 101, 115], 2⟩ : Said)] : List Said) := Sl.litR (css := [[.string (bs [83, 109, 105, 116, 104]), .int .i64 1], [.string (bs [112, 97, 105, 100]), .int .i64 1], [.string (bs [116, 101, 110]), .int .i64 1], [.string (bs [121, 101, 115]), .int .i64 2]]) (l := ([(⟨[83, 109, 105, 116, 104], 1⟩ : Said), (⟨[112, 97, 105, 100], 1⟩ : Said), (⟨[116, 101, 110], 1⟩ : Said), (⟨[121, 101, 115], 2⟩ : Said)] : List Said)) ⟨⟨rfl, rfl, rfl⟩, ⟨rfl, rfl, rfl⟩, ⟨rfl, rfl, rfl⟩, ⟨rfl, rfl, rfl⟩, tv⟩ hq4 hK5 rfl
 have := hl6.len
 refine bu (cs := [.slice (some q2) 4 4, .int .i64 100, .int .i64 60]) T4.B56 rfl rfl rfl (bS (cs := [.string (bs [104, 97, 115]), .string (bs [112, 97, 105, 100])]) T4.E24 rfl rfl rfl rfl fun q7 K8 hq9 hK10 => ?_)
 have hl11 : Sl (Flat encS) 1 K8 (some q7) 2 ([[104, 97, 115], [112, 97, 105, 100]] : List Bytes) := Sl.litR (css := [[.string (bs [104, 97, 115])], [.string (bs [112, 97, 105, 100])]]) (l := ([[104, 97, 115], [112, 97, 105, 100]] : List Bytes)) ⟨⟨rfl, rfl, rfl⟩, ⟨rfl, rfl, rfl⟩, tv⟩ hq9 hK10 rfl
 have := hl11.len
 refine bu (cs := [.int .i64 1, .int .i64 120, .int .i64 1, .int .i64 1, .slice (some q7) 2 2]) T4.B63 rfl rfl rfl (bS (cs := [.string (bs [49, 50])]) T4.E24 rfl rfl rfl rfl fun q12 K13 hq14 hK15 => ?_)
 have hl16 : Sl (Flat encS) 1 K13 (some q12) 1 ([[49, 50]] : List Bytes) := Sl.litR (css := [[.string (bs [49, 50])]]) (l := ([[49, 50]] : List Bytes)) ⟨⟨rfl, rfl, rfl⟩, tv⟩ hq14 hK15 rfl
 have := hl16.len
 refine bu (cs := [.int .i64 1, .int .i64 110, .int .i64 2, .int .i64 1, .slice (some q12) 1 1]) T4.B63 rfl rfl rfl (bS (cs := [.string (bs [49, 48])]) T4.E24 rfl rfl rfl rfl fun q17 K18 hq19 hK20 => ?_)
 have hl21 : Sl (Flat encS) 1 K18 (some q17) 1 ([[49, 48]] : List Bytes) := Sl.litR (css := [[.string (bs [49, 48])]]) (l := ([[49, 48]] : List Bytes)) ⟨⟨rfl, rfl, rfl⟩, tv⟩ hq19 hK20 rfl
 have := hl21.len
 refine bu (cs := [.int .i64 2, .int .i64 130, .int .i64 2, .int .i64 1, .slice (some q17) 1 1]) T4.B63 rfl rfl rfl (bS (cs := [.string (bs [110, 111])]) T4.E24 rfl rfl rfl rfl fun q22 K23 hq24 hK25 => ?_)
 have hl26 : Sl (Flat encS) 1 K23 (some q22) 1 ([[110, 111]] : List Bytes) := Sl.litR (css := [[.string (bs [110, 111])]]) (l := ([[110, 111]] : List Bytes)) ⟨⟨rfl, rfl, rfl⟩, tv⟩ hq24 hK25 rfl
 have := hl26.len
 refine bu (cs := [.int .i64 2, .int .i64 161, .int .i64 3, .int .i64 1, .slice (some q22) 1 1]) T4.B63 rfl rfl rfl (bS (cs := [.string (bs [110, 111, 116])]) T4.E24 rfl rfl rfl rfl fun q27 K28 hq29 hK30 => ?_)
 have hl31 : Sl (Flat encS) 1 K28 (some q27) 1 ([[110, 111, 116]] : List Bytes) := Sl.litR (css := [[.string (bs [110, 111, 116])]]) (l := ([[110, 111, 116]] : List Bytes)) ⟨⟨rfl, rfl, rfl⟩, tv⟩ hq29 hK30 rfl
 have := hl31.len
 refine bu (cs := [.int .i64 2, .int .i64 160, .int .i64 3, .int .i64 1, .slice (some q27) 1 1]) T4.B63 rfl rfl rfl (bS (cs := [.int .i64 1, .int .i64 120, .int .i64 1, .int .i64 1, .slice (some q7) 2 2, .int .i64 1, .int .i64 110, .int .i64 2, .int .i64 1, .slice (some q12) 1 1, .int .i64 2, .int .i64 130, .int .i64 2, .int .i64 1, .slice (some q17) 1 1, .int .i64 2, .int .i64 161, .int .i64 3, .int .i64 1, .slice (some q22) 1 1, .int .i64 2, .int .i64 160, .int .i64 3, .int .i64 1, .slice (some q27) 1 1]) T4.E64 rfl rfl rfl rfl fun q32 K33 hq34 hK35 => ?_)
 refine TG.pack (fun K => Sl (RRequest) 5 K (some q32) 5 ([(⟨1, 120, 1, 1, ([[104, 97, 115], [112, 97, 105, 100]] : List Bytes)⟩ : Request), (⟨1, 110, 2, 1, ([[49, 50]] : List Bytes)⟩ : Request), (⟨2, 130, 2, 1, ([[49, 48]] : List Bytes)⟩ : Request), (⟨2, 161, 3, 1, ([[110, 111]] : List Bytes)⟩ : Request), (⟨2, 160, 3, 1, ([[110, 111, 116]] : List Bytes)⟩ : Request)] : List Request)) (fun H le => Sl.litR (css := [[.int .i64 1, .int .i64 120, .int .i64 1, .int .i64 1, .slice (some q7) 2 2], [.int .i64 1, .int .i64 110, .int .i64 2, .int .i64 1, .slice (some q12) 1 1], [.int .i64 2, .int .i64 130, .int .i64 2, .int .i64 1, .slice (some q17) 1 1], [.int .i64 2, .int .i64 161, .int .i64 3, .int .i64 1, .slice (some q22) 1 1], [.int .i64 2, .int .i64 160, .int .i64 3, .int .i64 1, .slice (some q27) 1 1]]) (l := ([(⟨1, 120, 1, 1, ([[104, 97, 115], [112, 97, 105, 100]] : List Bytes)⟩ : Request), (⟨1, 110, 2, 1, ([[49, 50]] : List Bytes)⟩ : Request), (⟨2, 130, 2, 1, ([[49, 48]] : List Bytes)⟩ : Request), (⟨2, 161, 3, 1, ([[110, 111]] : List Bytes)⟩ : Request), (⟨2, 160, 3, 1, ([[110, 111, 116]] : List Bytes)⟩ : Request)] : List Request)) ⟨⟨rfl, rfl, ⟨_, _, rfl, (hl11.mono (Flat.mono _) (le.at 5 rfl))⟩⟩, ⟨rfl, rfl, ⟨_, _, rfl, (hl16.mono (Flat.mono _) (le.at 4 rfl))⟩⟩, ⟨rfl, rfl, ⟨_, _, rfl, (hl21.mono (Flat.mono _) (le.at 3 rfl))⟩⟩, ⟨rfl, rfl, ⟨_, _, rfl, (hl26.mono (Flat.mono _) (le.at 2 rfl))⟩⟩, ⟨rfl, rfl, ⟨_, _, rfl, (hl31.mono (Flat.mono _) (le.at 1 rfl))⟩⟩, tv⟩ hq34 (hK35.mono (le.at 0 rfl)) rfl) fun K37 hl36 => ?_
 have := hl36.len
 refine sto 1 (cs := [.slice (some q2) 4 4, .int .i64 100, .int .i64 60]) Z56 rfl rfl rfl rfl rfl rfl rfl (a1 rfl (on (rt_ ?_)))
 obtain rfl := sj hr
 intro a w hS hA
 refine rc2 hA rfl (ResAt.cell rfl (loadsA G56 Z56 (cell_at (hS.get (t := 1) rfl)) rfl)) (ResAt.tmp rfl) ?_
 exact ⟨⟨_, _, _, rfl, ⟨_, _, rfl, (hl6.mono (Flat.mono _) (hS.grow 7 rfl))⟩, (hl36.mono (RRequest.mono) (hS.grow 0 rfl))⟩, hS.ext⟩

theorem w91 {M : Prop} {W : World} {cs_w_0 : List Value} (w_0 : Said) (h_w_0 : (Flat encSaid) (hp W) cs_w_0 w_0) {r : Bool} (hr : m91 w_0 = some r) : Calls Tryz.prog 91 [.agg cs_w_0.toArray].toArray W (RetS M W (.bool r)) := by
 obtain rfl := h_w_0
 unfold m91 at hr
 refine enterG (M := M) Tryz.func91 rfl Tryz.ntmps91 rfl (Hp.le.refl _) ?_
 refine sq (rg (bI (cs := [.string (bs w_0.text), .int .i64 w_0.speaker]) rfl rfl rfl fun q1 K2 hK3 => (a1 rfl (on (sq ?_)))))
 obtain ⟨t13, hx14, hr15⟩ := bd_some hr
 refine jn (fun a w => St M W (hp W) [K2, (hp W)] [] w ∧ Has [] 11 a [(2, .bool t13)]) ?_ ?_
 ·refine rg (fb 0 U58 rfl rfl rfl rfl Z9 (ld G9 rfl rfl ((sS 0 rfl hK3).take 1) rfl ?_))
  obtain ⟨r16, hx17, hr18⟩ := bd_some hx14
  refine clS C78 rfl rfl rfl rfl (fun w H hH le => w78 w_0.text hx17) (m1 rfl ?_)
  rcases Bool.eq_false_or_eq_true (r16) with hb19 | hb19
  ·have hr20 := if_p hb19 hr18
   refine gN rfl rfl (hb19) (fb 1 U58 rfl rfl rfl rfl Z3 (gN rfl rfl (hb19) (ld G3 rfl rfl ((sS 0 rfl hK3).drop 1) rfl (gN rfl rfl (hb19) ?_))))
   obtain ⟨r21, hx22, hr23⟩ := bd_some hr20
   refine clS C84 rfl rfl rfl rfl (fun w H hH le => w84 w_0.speaker 0 999 hx22) (pT rfl rfl (hb19) rfl (a1 rfl (on ?_)))
   cases hr23
   exact cu ⟨rfl, tv⟩
  ·have hr24 := if_f hb19 hr18
   refine gF rfl rfl (hb19) rfl (gF rfl rfl (hb19) rfl (gF rfl rfl (hb19) rfl (pF rfl rfl (hb19) rfl (a1 rfl (on ?_)))))
   cases hr24
   exact cu ⟨rfl, tv⟩
 ·rintro a w ⟨hS, hA⟩
  refine TG.ap ?_ hS hA
  refine rt_ ?_
  cases hr15
  intro a w hS hA
  refine ret1 hA rfl rfl ?_
  exact ⟨rfl, hS.ext⟩

theorem w121 {M : Prop} {W : World} {H : Hp} (hH : H.le (hp W)) {cs_x_0 : List Value} (x_0 : Said) (h_x_0 : (Flat encSaid) H cs_x_0 x_0) {q_f0_ : Addr} {fv_f0_ : Value} {f0_ : Said → Option Bool} (hc_f0_ : CellsAt H q_f0_ [fv_f0_]) (h_f0_ : FnV M Tryz.prog H fv_f0_ (SF1 (Va encSaid) Value.bool f0_)) {r : Bool} (hr : m121 x_0 f0_ = some r) : Calls Tryz.prog 121 [.agg cs_x_0.toArray, .pointer (some q_f0_)].toArray W (RetS M W (.bool r)) := by
 obtain rfl := h_x_0
 have hh_f0_ := h_f0_
 obtain ⟨f_f0_, fi_f0_, ca_f0_, rfl, _, _⟩ := h_f0_
 unfold m121 at hr
 refine enterG (M := M) Tryz.func121 rfl Tryz.ntmps121 rfl hH ?_
 refine sq (rg (bI (cs := [.string (bs x_0.text), .int .i64 x_0.speaker]) rfl rfl rfl fun q1 K2 hK3 => (a1 rfl (on (sq (rg (ld G162 rfl rfl (sS 1 rfl hc_f0_) rfl (ldA G58 Z58 rfl rfl (sS 0 rfl hK3) rfl ?_))))))))
 obtain ⟨r4, hx5, hr6⟩ := bd_some hr
 refine clV (v := .bool r4) hh_f0_ 1 rfl rfl rfl rfl (fun H le => ⟨_, x_0, r4, rfl, rfl, hx5, rfl⟩) (nt rfl rfl (a1 rfl (on (rt_ ?_))))
 cases hr6
 intro a w hS hA
 refine ret1 hA rfl rfl ?_
 exact ⟨rfl, hS.ext⟩

theorem w147 {M : Prop} {W : World} {H : Hp} (hH : H.le (hp W)) {ad_s_0 : Option Addr} {cap_s_0 : Nat} {s_0 : List Said} (h_s_0 : Sl (Flat encSaid) 2 H ad_s_0 cap_s_0 s_0) {fv_f_1 : Value} {f_1 : Said → Option Bool} (h_f_1 : FnV M Tryz.prog H fv_f_1 (SF1 (Va encSaid) Value.bool f_1)) {r : Int} (hr : m147 s_0 f_1 = some r) : Calls Tryz.prog 147 [.slice ad_s_0 s_0.length cap_s_0, fv_f_1].toArray W (RetS M W (.int .i64 r)) := by
 have := h_s_0.len
 have hh_f_1 := h_f_1
 obtain ⟨f_f_1, fi_f_1, ca_f_1, rfl, _, _⟩ := h_f_1
 unfold m147 at hr
 refine enterG (M := M) Tryz.func147 rfl Tryz.ntmps147 rfl hH ?_
 refine sq (rg (a1 rfl (on (sq (sq (rg (m1 rfl (lnL U54 rfl rfl (m1 rfl (on ?_))))))))))
 obtain ⟨e19, hl20, hr21⟩ := bd_some hr
 refine jn (fun a w => ∃ t22, e19 = .inl t22 ∧ St M W H [H] [] w ∧ Has [] 19 a []) ?_ ?_
 ·refine bk ?_
  refine lp hl20 (fun s23 a w => St M W H [H] [] w ∧ Has [] 19 a [(0, .slice ad_s_0 s_0.length cap_s_0), (1, .func (.func f_f_1) fi_f_1.toArray ca_f_1.toArray), (7, .int .i64 (s_0.length : Int)), (8, .int .i64 (s23 : Int))]) ?_ ?_
  ·exact cu ⟨rfl, rfl, rfl, rfl, tv⟩
  ·rintro j s23 y26 hr24 hz25 a w ⟨hS, hA⟩
   refine TG.ap ?_ hS hA
   unfold m147_1 at hr24
   refine sq (rg (ltI rfl rfl rfl (on (sq ?_))))
   refine ci rfl (fun hc30 => ?_) (fun hc30 => ?_)
   ·have hr31 := if_p hc30 hr24
    refine sk (sq (bk (sq (rg (m1 rfl (a1 rfl (on (sq (rg (m1 rfl (m1 rfl ?_)))))))))))
    refine m1 rfl ?_
    obtain ⟨x46, hx47, hr48⟩ := bd_some hr31
    obtain ⟨p49, rfl⟩ := h_s_0.adr hx47
    obtain ⟨cs50, hcs51, hq52, hr53⟩ := h_s_0.at hx47
    obtain rfl := hr53
    refine iaP U54 Z58 rfl rfl rfl rfl (lt_of hx47) (ldA G58 Z58 rfl rfl (sS 0 rfl hq52) rfl ?_)
    obtain ⟨r54, hx55, hr56⟩ := bd_some hr48
    refine clV (v := .bool r54) hh_f_1 0 rfl rfl rfl rfl (fun H le => ⟨_, x46, r54, rfl, rfl, hx55, rfl⟩) (on ?_)
    refine cb rfl (fun hc60 => ?_) (fun hc60 => ?_)
    ·have hr61 := if_p hc60 hr56
     refine sq (rg (m1 rfl (a1 rfl (on (rt_ ?_)))))
     cases hr61
     obtain rfl := Fin.out hz25
     cases hr21
     intro a w hS hA
     refine ret1 hA rfl rfl ?_
     exact ⟨rfl, hS.ext⟩
    ·have hr62 := if_f hc60 hr56
     refine sk (rg (adI rfl rfl rfl (by omega) (m1 rfl (on ?_))))
     cases hr62
     intro a w hS hA
     exact ⟨_, hz25, hS, hA.cut ⟨rfl, rfl, rfl, rfl, tv⟩⟩
   ·have hr63 := if_n hc30 hr24
    refine xt rfl ?_
    cases hr63
    obtain rfl := Fin.out hz25
    intro a w hS hA
    exact ⟨_, rfl, hS, hA.cut tv⟩
 ·rintro a w ⟨t22, rfl, hS, hA⟩
  refine TG.ap ?_ hS hA
  refine sq (rg (a1 rfl (on (rt_ ?_))))
  cases hr21
  intro a w hS hA
  refine ret1 hA rfl rfl ?_
  exact ⟨rfl, hS.ext⟩

theorem w120 {M : Prop} {W : World} {H : Hp} (hH : H.le (hp W)) {ad_s_0 : Option Addr} {cap_s_0 : Nat} {s_0 : List Said} (h_s_0 : Sl (Flat encSaid) 2 H ad_s_0 cap_s_0 s_0) {fv_f_1 : Value} {f_1 : Said → Option Bool} (h_f_1 : FnV M Tryz.prog H fv_f_1 (SF1 (Va encSaid) Value.bool f_1)) {r : Bool} (hr : m120 s_0 f_1 = some r) : Calls Tryz.prog 120 [.slice ad_s_0 s_0.length cap_s_0, fv_f_1].toArray W (RetS M W (.bool r)) := by
 have := h_s_0.len
 have hh_f_1 := h_f_1
 obtain ⟨f_f_1, fi_f_1, ca_f_1, rfl, _, _⟩ := h_f_1
 unfold m120 at hr
 refine enterG (M := M) Tryz.func120 rfl Tryz.ntmps120 rfl hH ?_
 refine sq (rg (a1 rfl (on (sq (rg (m1 rfl (m1 rfl ?_)))))))
 obtain ⟨r1, hx2, hr3⟩ := bd_some hr
 refine clS C147 rfl rfl rfl rfl (fun w H hH le => w147 hH (h_s_0.mono (Flat.mono _) (le.at 0 rfl)) (f_1 := f_1) (hh_f_1.mono (le.at 0 rfl)) hx2) (geI rfl rfl rfl (a1 rfl (on (rt_ ?_))))
 cases hr3
 intro a w hS hA
 refine ret1 hA rfl rfl ?_
 exact ⟨rfl, hS.ext⟩

theorem w92 {M : Prop} {W : World} {H : Hp} (hH : H.le (hp W)) {ad_l_0 : Option Addr} {cap_l_0 : Nat} {l_0 : List Said} (h_l_0 : Sl (Flat encSaid) 2 H ad_l_0 cap_l_0 l_0) {fv_right : Value} {right : Said → Option Bool} (h_right : FnV M Tryz.prog H fv_right (SF1 (Va encSaid) Value.bool right)) {r : Bool} (hr : m92 l_0 right = some r) : Calls Tryz.prog 92 [.slice ad_l_0 l_0.length cap_l_0, fv_right].toArray W (RetS M W (.bool r)) := by
 have := h_l_0.len
 have hh_right := h_right
 obtain ⟨f_right, fi_right, ca_right, rfl, _, _⟩ := h_right
 unfold m92 at hr
 refine enterG (M := M) Tryz.func92 rfl Tryz.ntmps92 rfl hH ?_
 refine sq (rg (bI (cs := [.func (.func f_right) fi_right.toArray ca_right.toArray]) rfl rfl rfl fun q1 K2 hK3 => (a1 rfl (on (sq (rg (m1 rfl (fn rfl rfl rfl ?_))))))))
 obtain ⟨r5, hx6, hr7⟩ := bd_some hr
 refine clS (v := .bool r5) C120 rfl rfl rfl rfl (fun w H hH le => by
   have hf4 : FnV M Tryz.prog H (.func (.func 121) [].toArray [.pointer (some q1)].toArray) (SF1 (Va encSaid) Value.bool (fun x0_ => m121 x0_ right)) := ⟨121, [], [.pointer (some q1)], rfl, C121, fun w_ K_ args_ v_ hK hw hs => by obtain ⟨u0_, x0_, r_, rfl, h0_, hx, rfl⟩ := hs; cases h0_; exact w121 (H := K_) hw  x0_ rfl (f0_ := right) (hK3.mono ((le.at 0 rfl).trans hK)) (hh_right.mono ((le.at 1 rfl).trans hK)) hx⟩
   exact w120 hH (h_l_0.mono (Flat.mono _) (le.at 1 rfl)) (f_1 := (fun x0_ => m121 x0_ right)) hf4 hx6) ?_
 refine nt rfl rfl (a1 rfl (on (rt_ ?_)))
 cases hr7
 intro a w hS hA
 refine ret1 hA rfl rfl ?_
 exact ⟨rfl, hS.ext⟩

theorem w61 {M : Prop} {W : World} {H : Hp} (hH : H.le (hp W)) {cs_r_0 : List Value} (r_0 : Report) (h_r_0 : (RReport) H cs_r_0 r_0) {r : Int} (hr : m61 r_0 = some r) : Calls Tryz.prog 61 [.agg cs_r_0.toArray].toArray W (RetS M W (.int .i64 r)) := by
 have hh_r_0 := h_r_0
 obtain ⟨ad1, cap2, rfl, hl3⟩ := h_r_0
 have := hl3.len
 unfold m61 at hr
 refine enterG (M := M) Tryz.func61 rfl Tryz.ntmps61 rfl hH ?_
 refine sq (rg (bI (cs := [.slice ad1 r_0.words.length cap2, .int .i64 r_0.out, .int .i64 r_0.within]) rfl rfl rfl fun q4 K5 hK6 => (a1 rfl (on (sq (rg (a1 rfl (on (sq (sq ?_))))))))))
 obtain ⟨t26, hx27, hr28⟩ := bd_some hr
 refine jn (fun a w => St M W H [K5, H] [] w ∧ Has [] 27 a [(26, .bool t26)]) ?_ ?_
 ·refine rg (fb 0 U56 rfl rfl rfl rfl Z54 (ld G54 rfl rfl ((sS 0 rfl hK6).take 1) rfl (lnL U54 rfl rfl (gtI rfl rfl rfl (m1 rfl ?_)))))
  by_cases hb29 : 80 < (r_0.words.length : Int)
  ·have hr30 := if_p hb29 hx27
   refine gf' hb29 rfl (gf' hb29 rfl (gf' hb29 rfl (gf' hb29 rfl (gf' hb29 rfl (pt hb29 rfl rfl (m1 rfl (gF rfl rfl rfl rfl (gF rfl rfl rfl rfl (gF rfl rfl rfl rfl (gF rfl rfl rfl rfl (pT rfl rfl rfl rfl ?_)))))))))))
   refine m1 rfl (gF rfl rfl rfl rfl (gF rfl rfl rfl rfl (gF rfl rfl rfl rfl (gF rfl rfl rfl rfl (pT rfl rfl rfl rfl (on ?_))))))
   cases hr30
   exact cu ⟨rfl, tv⟩
  ·have hr31 := if_n hb29 hx27
   refine gt' hb29 rfl (fb 0 U56 rfl rfl rfl rfl Z54 (gt' hb29 rfl (ld G54 rfl rfl ((sS 0 rfl hK6).take 1) rfl (gt' hb29 rfl (m1 rfl (gt' hb29 rfl ?_))))))
   obtain ⟨r33, hx34, hr35⟩ := bd_some hr31
   refine clS (v := .bool r33) C92 rfl rfl rfl rfl (fun w H hH le => by
     have hf32 : FnV M Tryz.prog H (.func (.func 91) [].toArray [].toArray) (SF1 (Va encSaid) Value.bool (m91)) := ⟨91, [], [], rfl, C91, fun w_ K_ args_ v_ hK hw hs => by obtain ⟨u0_, x0_, r_, rfl, h0_, hx, rfl⟩ := hs; cases h0_; exact w91  x0_ rfl  hx⟩
     exact w92 hH (hl3.mono (Flat.mono _) (le.at 1 rfl)) (right := (m91)) hf32 hx34) ?_
   refine gt' hb29 rfl (nt rfl rfl (pf hb29 rfl rfl (m1 rfl ?_)))
   rcases Bool.eq_false_or_eq_true (r33) with hb36 | hb36
   ·have hr37 := if_p hb36 hr35
    refine gN rfl rfl (congrArg not (hb36)) (fb 1 U56 rfl rfl rfl rfl Z3 (gN rfl rfl (congrArg not (hb36)) (ld G3 rfl rfl (((sS 0 rfl hK6).drop 1).take 1) rfl (gN rfl rfl (congrArg not (hb36)) ?_))))
    obtain ⟨r38, hx39, hr40⟩ := bd_some hr37
    refine clS C84 rfl rfl rfl rfl (fun w H hH le => w84 r_0.out 0 100000 hx39) (gN rfl rfl (congrArg not (hb36)) (nt rfl rfl (pF rfl rfl (congrArg not (hb36)) rfl (m1 rfl ?_))))
    rcases Bool.eq_false_or_eq_true (r38) with hb41 | hb41
    ·have hr42 := if_p hb41 hr40
     refine gN rfl rfl (congrArg not (hb41)) (fb 2 U56 rfl rfl rfl rfl Z3 (gN rfl rfl (congrArg not (hb41)) (ld G3 rfl rfl ((sS 0 rfl hK6).drop 2) rfl (gN rfl rfl (congrArg not (hb41)) ?_))))
     obtain ⟨r43, hx44, hr45⟩ := bd_some hr42
     refine clS C84 rfl rfl rfl rfl (fun w H hH le => w84 r_0.within 0 100000 hx44) (gN rfl rfl (congrArg not (hb41)) (nt rfl rfl (pF rfl rfl (congrArg not (hb41)) rfl (on ?_))))
     cases hr45
     exact cu ⟨rfl, tv⟩
    ·have hr46 := if_f hb41 hr40
     refine gF rfl rfl (congrArg not (hb41)) rfl (gF rfl rfl (congrArg not (hb41)) rfl (gF rfl rfl (congrArg not (hb41)) rfl (gF rfl rfl (congrArg not (hb41)) rfl (pT rfl rfl (congrArg not (hb41)) rfl (on ?_)))))
     cases hr46
     exact cu ⟨rfl, tv⟩
   ·have hr47 := if_f hb36 hr35
    refine gF rfl rfl (congrArg not (hb36)) rfl (gF rfl rfl (congrArg not (hb36)) rfl (gF rfl rfl (congrArg not (hb36)) rfl (gF rfl rfl (congrArg not (hb36)) rfl (pT rfl rfl (congrArg not (hb36)) rfl (m1 rfl (gF rfl rfl rfl rfl (gF rfl rfl rfl rfl (gF rfl rfl rfl rfl (gF rfl rfl rfl rfl (pT rfl rfl rfl rfl (on ?_)))))))))))
    cases hr47
    exact cu ⟨rfl, tv⟩
 ·rintro a w ⟨hS, hA⟩
  refine TG.ap ?_ hS hA
  refine cb rfl (fun hc51 => ?_) (fun hc51 => ?_)
  ·have hr52 := if_p hc51 hr28
   refine sq (rg (a1 rfl (on (rt_ ?_))))
   cases hr52
   intro a w hS hA
   refine ret1 hA rfl rfl ?_
   exact ⟨rfl, hS.ext⟩
  ·have hr53 := if_f hc51 hr28
   refine sk (sq (rg (a1 rfl (on (rt_ ?_)))))
   cases hr53
   intro a w hS hA
   refine ret1 hA rfl rfl ?_
   exact ⟨rfl, hS.ext⟩

theorem w113 {M : Prop} {W : World} (x_0 : Int) {r : Bool} (hr : m113 x_0 = some r) : Calls Tryz.prog 113 [.int .i64 x_0].toArray W (RetS M W (.bool r)) := by
 unfold m113 at hr
 refine enterG (M := M) Tryz.func113 rfl Tryz.ntmps113 rfl (Hp.le.refl _) ?_
 refine sq (rg (a1 rfl (on (sq (rg (m1 rfl (m1 rfl (neI rfl rfl rfl (a1 rfl (on (rt_ ?_)))))))))))
 obtain rfl := sj hr
 intro a w hS hA
 refine ret1 hA rfl rfl ?_
 exact ⟨rfl, hS.ext⟩

theorem w89 {M : Prop} {W : World} (x_0 : Int) (y_1 : Int) {r : Int} (hr : m89 x_0 y_1 = some r) : Calls Tryz.prog 89 [.int .i64 x_0, .int .i64 y_1].toArray W (RetS M W (.int .i64 r)) := by
 unfold m89 at hr
 refine enterG (M := M) Tryz.func89 rfl Tryz.ntmps89 rfl (Hp.le.refl _) ?_
 refine sq (rg (a1 rfl (on (sq (rg (m1 rfl ?_))))))
 obtain ⟨r1, hx2, hr3⟩ := bd_some hr
 refine clS C113 rfl rfl rfl rfl (fun w H hH le => w113 x_0 hx2) (a1 rfl (on (sq (rg (m1 rfl ?_)))))
 obtain ⟨r4, hx5, hr6⟩ := bd_some hr3
 refine clS C113 rfl rfl rfl rfl (fun w H hH le => w113 y_1 hx5) (a1 rfl (on (sq (sq (rg (m1 rfl (on ?_)))))))
 refine cb rfl (fun hc13 => ?_) (fun hc13 => ?_)
 ·have hr14 := if_p hc13 hr6
  refine sq (sq (rg (m1 rfl (on ?_))))
  refine cb rfl (fun hc18 => ?_) (fun hc18 => ?_)
  ·have hr19 := if_p hc18 hr14
   refine sq (rg (a1 rfl (on (rt_ ?_))))
   cases hr19
   intro a w hS hA
   refine ret1 hA rfl rfl ?_
   exact ⟨rfl, hS.ext⟩
  ·have hr20 := if_f hc18 hr14
   refine sk (sq (rg (a1 rfl (on (rt_ ?_)))))
   cases hr20
   intro a w hS hA
   refine ret1 hA rfl rfl ?_
   exact ⟨rfl, hS.ext⟩
 ·have hr21 := if_f hc13 hr6
  refine sk (sq (sq (rg (m1 rfl (on ?_)))))
  refine cb rfl (fun hc25 => ?_) (fun hc25 => ?_)
  ·have hr26 := if_p hc25 hr21
   refine sq (rg (a1 rfl (on (rt_ ?_))))
   cases hr26
   intro a w hS hA
   refine ret1 hA rfl rfl ?_
   exact ⟨rfl, hS.ext⟩
  ·have hr27 := if_f hc25 hr21
   refine sk (sq (sq (rg (m1 rfl (m1 rfl (ltI rfl rfl rfl (on ?_)))))))
   refine ci rfl (fun hc31 => ?_) (fun hc31 => ?_)
   ·have hr32 := if_p hc31 hr27
    refine sq (rg (a1 rfl (on (rt_ ?_))))
    cases hr32
    intro a w hS hA
    refine ret1 hA rfl rfl ?_
    exact ⟨rfl, hS.ext⟩
   ·have hr33 := if_n hc31 hr27
    refine sk (sq (sq (rg (m1 rfl (m1 rfl (gtI rfl rfl rfl (on ?_)))))))
    refine ci rfl (fun hc37 => ?_) (fun hc37 => ?_)
    ·have hr38 := if_p hc37 hr33
     refine sq (rg (a1 rfl (on (rt_ ?_))))
     cases hr38
     intro a w hS hA
     refine ret1 hA rfl rfl ?_
     exact ⟨rfl, hS.ext⟩
    ·have hr39 := if_n hc37 hr33
     refine sk (sq (rg (a1 rfl (on (rt_ ?_)))))
     cases hr39
     intro a w hS hA
     refine ret1 hA rfl rfl ?_
     exact ⟨rfl, hS.ext⟩

theorem w97 {M : Prop} {W : World} {H : Hp} (hH : H.le (hp W)) {ad_vals : Option Addr} {cap_vals : Nat} {vals : List Int} (h_vals : Sl (Flat (encI .i64)) 1 H ad_vals cap_vals vals) {r : Int} (hr : m97 vals = some r) : Calls Tryz.prog 97 [.slice ad_vals vals.length cap_vals].toArray W (RetS M W (.int .i64 r)) := by
 have := h_vals.len
 unfold m97 at hr
 refine enterG (M := M) Tryz.func97 rfl Tryz.ntmps97 rfl hH ?_
 refine sq (rg (a1 rfl (on (sq (rg (a1 rfl (on (sq (sq (rg (m1 rfl ?_)))))))))))
 refine lnL U86 rfl rfl (m1 rfl (on ?_))
 obtain ⟨e16, hl17, hr18⟩ := bd_some hr
 refine jn (fun a w => ∃ t19, e16 = .inl t19 ∧ St M W H [H] [] w ∧ Has [] 18 a [(3, .int .i64 0)]) ?_ ?_
 ·refine bk ?_
  refine lp hl17 (fun s20 a w => St M W H [H] [] w ∧ Has [] 18 a [(3, .int .i64 0), (6, .slice ad_vals vals.length cap_vals), (7, .int .i64 (vals.length : Int)), (8, .int .i64 (s20 : Int))]) ?_ ?_
  ·exact cu ⟨rfl, rfl, rfl, rfl, tv⟩
  ·rintro j s20 y23 hr21 hz22 a w ⟨hS, hA⟩
   refine TG.ap ?_ hS hA
   unfold m97_1 at hr21
   refine sq (rg (ltI rfl rfl rfl (on (sq ?_))))
   refine ci rfl (fun hc27 => ?_) (fun hc27 => ?_)
   ·have hr28 := if_p hc27 hr21
    refine sk (sq (bk (sq (rg ?_))))
    obtain ⟨x40, hx41, hr42⟩ := bd_some hr28
    obtain ⟨p43, rfl⟩ := h_vals.adr hx41
    obtain ⟨cs44, hcs45, hq46, hr47⟩ := h_vals.at hx41
    obtain rfl := hr47
    refine iaP U86 Z3 rfl rfl rfl rfl (lt_of hx41) (ld G3 rfl rfl (sS 0 rfl hq46) rfl (a1 rfl (on (sq (rg (m1 rfl (m1 rfl (neI rfl rfl rfl (on ?_)))))))))
    refine ci rfl (fun hc51 => ?_) (fun hc51 => ?_)
    ·have hr52 := if_p hc51 hr42
     refine sq (rg (m1 rfl (a1 rfl (on (rt_ ?_)))))
     cases hr52
     obtain rfl := Fin.out hz22
     cases hr18
     intro a w hS hA
     refine ret1 hA rfl rfl ?_
     exact ⟨rfl, hS.ext⟩
    ·have hr53 := if_n hc51 hr42
     refine sk (rg (adI rfl rfl rfl (by omega) (m1 rfl (on ?_))))
     cases hr53
     intro a w hS hA
     exact ⟨_, hz22, hS, hA.cut ⟨rfl, rfl, rfl, rfl, tv⟩⟩
   ·have hr54 := if_n hc27 hr21
    refine xt rfl ?_
    cases hr54
    obtain rfl := Fin.out hz22
    intro a w hS hA
    exact ⟨_, rfl, hS, hA.cut ⟨rfl, tv⟩⟩
 ·rintro a w ⟨t19, rfl, hS, hA⟩
  refine TG.ap ?_ hS hA
  refine sq (rg (m1 rfl (a1 rfl (on (rt_ ?_)))))
  cases hr18
  intro a w hS hA
  refine ret1 hA rfl rfl ?_
  exact ⟨rfl, hS.ext⟩

theorem w66 {M : Prop} {W : World} {H : Hp} (hH : H.le (hp W)) {ad_l_0 : Option Addr} {cap_l_0 : Nat} {l_0 : List Int} (h_l_0 : Sl (Flat (encI .i64)) 1 H ad_l_0 cap_l_0 l_0) {r : Int} (hr : m66 l_0 = some r) : Calls Tryz.prog 66 [.slice ad_l_0 l_0.length cap_l_0].toArray W (RetS M W (.int .i64 r)) := by
 have := h_l_0.len
 unfold m66 at hr
 refine enterG (M := M) Tryz.func66 rfl Tryz.ntmps66 rfl hH ?_
 refine sq (rg (a1 rfl (on (sq (rg (m1 rfl ?_))))))
 obtain ⟨r1, hx2, hr3⟩ := bd_some hr
 refine clS C97 rfl rfl rfl rfl (fun w H hH le => w97 hH (h_l_0.mono (Flat.mono _) (le.at 0 rfl)) hx2) (a1 rfl (on (rt_ ?_)))
 cases hr3
 intro a w hS hA
 refine ret1 hA rfl rfl ?_
 exact ⟨rfl, hS.ext⟩

theorem w88 {M : Prop} {W : World} {H : Hp} (hH : H.le (hp W)) (a_0 : Int) (b_1 : Int) {q_f0_ : Addr} {ad_f0_ : Option Addr} {cap_f0_ : Nat} {f0_ : List Request} (hc_f0_ : CellsAt H q_f0_ [.slice ad_f0_ f0_.length cap_f0_]) (h_f0_ : Sl (RRequest) 5 H ad_f0_ cap_f0_ f0_) {r : Int} (hr : m88 a_0 b_1 f0_ = some r) : Calls Tryz.prog 88 [.int .i64 a_0, .int .i64 b_1, .pointer (some q_f0_)].toArray W (RetS M W (.int .i64 r)) := by
 have := h_f0_.len
 unfold m88 at hr
 refine enterG (M := M) Tryz.func88 rfl Tryz.ntmps88 rfl hH ?_
 refine sq (rg (a1 rfl (on (sq ?_))))
 obtain ⟨hk1, hr2⟩ := chk_some hr
 obtain ⟨x3, hx4, hr5⟩ := bd_some hr2
 obtain ⟨p6, rfl⟩ := h_f0_.adr hx4
 obtain ⟨cs7, hcs8, hq9, hr10⟩ := h_f0_.at hx4
 have hr11 := hr10
 obtain ⟨ad12, cap13, rfl, hl14⟩ := hr10
 have := hl14.len
 obtain ⟨hk15, hr16⟩ := chk_some hr5
 obtain ⟨x17, hx18, hr19⟩ := bd_some hr16
 obtain ⟨cs20, hcs21, hq22, hr23⟩ := h_f0_.at hx18
 have hr24 := hr23
 obtain ⟨ad25, cap26, rfl, hl27⟩ := hr23
 have := hl27.len
 obtain ⟨r28, hx29, hr30⟩ := bd_some hr19
 refine drG 21 mixed (by kernel_rfl) rfl (dt rfl (ld G64 rfl rfl (sS 1 rfl hc_f0_) rfl fin1) (dt rfl (m1 rfl fin1) (dt rfl (iaP U64 Z63 rfl rfl rfl (by omega) (lt_of hx4) fin1) (dt rfl (fb 1 U63 rfl rfl rfl rfl Z3 fin1) (dt rfl (ld G3 rfl rfl (((sS 1 rfl hq9).drop 1).take 1) rfl fin1) (dt rfl (ld G64 rfl rfl (sS 1 rfl hc_f0_) rfl fin1) (dt rfl (m1 rfl fin1) (dt rfl (iaP U64 Z63 rfl rfl rfl (by omega) (lt_of hx18) fin1) (dt rfl (fb 1 U63 rfl rfl rfl rfl Z3 fin1) (dt rfl (ld G3 rfl rfl (((sS 1 rfl hq22).drop 1).take 1) rfl fin1) (dt rfl (clS C89 rfl rfl rfl rfl (fun w H hH le => w89 x3.minute x17.minute hx29) fin1) ?_)))))))))))
 refine dt rfl (ld G64 rfl rfl (sS 1 rfl hc_f0_) rfl fin1) (dt rfl (m1 rfl fin1) (dt rfl (iaP U64 Z63 rfl rfl rfl (by omega) (lt_of hx4) fin1) (dt rfl (fb 0 U63 rfl rfl rfl rfl Z3 fin1) (dt rfl (ld G3 rfl rfl ((sS 1 rfl hq9).take 1) rfl fin1) (dt rfl (ld G64 rfl rfl (sS 1 rfl hc_f0_) rfl fin1) (dt rfl (m1 rfl fin1) (dt rfl (iaP U64 Z63 rfl rfl rfl (by omega) (lt_of hx18) fin1) (dt rfl (fb 0 U63 rfl rfl rfl rfl Z3 fin1) (dt rfl (ld G3 rfl rfl ((sS 1 rfl hq22).take 1) rfl fin1) (DF.nil fun K31 hF => ?_))))))))))
 obtain ⟨r32, hx33, hr34⟩ := bd_some hr30
 refine clS C89 rfl rfl rfl rfl (fun w H hH le => w89 x3.by_ x17.by_ hx33) (bS (cs := [.int .i64 r28, .int .i64 r32]) T4.E86 rfl rfl rfl rfl fun q35 K36 hq37 hK38 => ?_)
 have hl39 : Sl (Flat (encI .i64)) 1 K36 (some q35) 2 ([r28, r32] : List Int) := Sl.litR (css := [[.int .i64 r28], [.int .i64 r32]]) (l := ([r28, r32] : List Int)) ⟨⟨rfl, rfl, rfl⟩, ⟨rfl, rfl, rfl⟩, tv⟩ hq37 hK38 rfl
 have := hl39.len
 obtain ⟨r40, hx41, hr42⟩ := bd_some hr34
 refine clS C66 rfl rfl rfl rfl (fun w H hH le => w66 hH (hl39.mono (Flat.mono _) (le.at 0 rfl)) hx41) (a1 rfl (on (rt_ ?_)))
 cases hr42
 intro a w hS hA
 refine ret1 hA rfl rfl ?_
 exact ⟨rfl, hS.ext⟩

theorem w114 {M : Prop} {W : World} {H : Hp} (hH : H.le (hp W)) {q_d_0 : Addr} {cs_d_0 : List Value} (d_0 : decided) (hc_d_0 : CellsAt H q_d_0 cs_d_0) (h_d_0 : (Rdecided) H cs_d_0 d_0) {cs_q_1 : List Value} (q_1 : Request) (h_q_1 : (RRequest) H cs_q_1 q_1) {r : Bool} (hr : m114 d_0 q_1 = some r) : Calls Tryz.prog 114 [.pointer (some q_d_0), .agg cs_q_1.toArray].toArray W (RetS M W (.bool r)) := by
 have hh_d_0 := h_d_0
 obtain ⟨ad1, cap2, mp4, ad6, cap7, ad9, cap10, ad12, cap13, ad15, cap16, rfl, hl3, hm5, hl8, hl11, hl14, hl17⟩ := h_d_0
 have := hl3.len
 have := hl8.len
 have := hl11.len
 have := hl14.len
 have := hl17.len
 have hh_q_1 := h_q_1
 obtain ⟨ad18, cap19, rfl, hl20⟩ := h_q_1
 have := hl20.len
 unfold m114 at hr
 refine enterG (M := M) Tryz.func114 rfl Tryz.ntmps114 rfl hH ?_
 refine sq (rg (bI (cs := [.int .i64 q_1.by_, .int .i64 q_1.minute, .int .i64 q_1.from_, .int .i64 q_1.cut, .slice ad18 q_1.put_.length cap19]) rfl rfl rfl fun q21 K22 hK23 => (a1 rfl (on (sq ?_)))))
 obtain ⟨t35, hx36, hr37⟩ := bd_some hr
 refine jn (fun a w => St M W H [K22, H] [] w ∧ Has [] 27 a [(4, .bool t35)]) ?_ ?_
 ·by_cases hb38 : 0 ≤ q_1.from_
  ·have hr39 := if_p hb38 hx36
   by_cases hb40 : 0 ≤ q_1.cut
   ·have hr41 := if_p hb40 hr39
    obtain ⟨hk42, hr43⟩ := chk_some hr41
    refine drG 20 mixed (by kernel_rfl) rfl (dt rfl (fb 2 U63 rfl rfl rfl rfl Z3 fin1) (dt rfl (ld G3 rfl rfl (((sS 1 rfl hK23).drop 2).take 1) rfl fin1) (dt rfl (geI rfl rfl rfl fin1) (dt rfl (m1 rfl fin1) (dt rfl (gt hb38 rfl (fb 3 U63 rfl rfl rfl rfl Z3 fin1)) (dt rfl (gt hb38 rfl (ld G3 rfl rfl (((sS 1 rfl hK23).drop 3).take 1) rfl fin1)) (dt rfl (gt hb38 rfl (geI rfl rfl rfl fin1)) (dt rfl (pt hb38 rfl rfl fin1) (dt rfl (m1 rfl fin1) (dt rfl (gt hb40 rfl (fb 2 U63 rfl rfl rfl rfl Z3 fin1)) (dt rfl (gt hb40 rfl (ld G3 rfl rfl (((sS 1 rfl hK23).drop 2).take 1) rfl fin1)) ?_)))))))))))
    refine dt rfl (gt hb40 rfl (m1 rfl fin1)) (dt rfl (gt hb40 rfl (nl rfl rfl fin1)) (dt rfl (gt hb40 rfl (fb 0 U133 rfl rfl rfl rfl Z56 fin1)) (dt rfl (gt hb40 rfl (fb 0 U56 rfl rfl rfl rfl Z54 fin1)) (dt rfl (gt hb40 rfl (ld G54 rfl rfl ((sS 2 rfl hc_d_0).take 1) rfl fin1)) (dt rfl (gt hb40 rfl (lnL U54 rfl rfl fin1)) (dt rfl (gt hb40 rfl (fb 3 U63 rfl rfl rfl rfl Z3 fin1)) (dt rfl (gt hb40 rfl (ld G3 rfl rfl (((sS 1 rfl hK23).drop 3).take 1) rfl fin1)) (dt rfl (gt hb40 rfl (sbI rfl rfl rfl hk42 fin1)) (DF.nil fun K44 hF => (gt hb40 rfl (leI rfl rfl rfl ?_)))))))))))
    refine pt hb40 rfl rfl (a1 rfl (on ?_))
    cases hr43
    intro a w hS hA
    exact ⟨hS.selH [1, 2] rfl, hA.cut ⟨rfl, tv⟩⟩
   ·have hr45 := if_n hb40 hr39
    refine drG 20 mixed (by kernel_rfl) rfl (dt rfl (fb 2 U63 rfl rfl rfl rfl Z3 fin1) (dt rfl (ld G3 rfl rfl (((sS 1 rfl hK23).drop 2).take 1) rfl fin1) (dt rfl (geI rfl rfl rfl fin1) (dt rfl (m1 rfl fin1) (dt rfl (gt hb38 rfl (fb 3 U63 rfl rfl rfl rfl Z3 fin1)) (dt rfl (gt hb38 rfl (ld G3 rfl rfl (((sS 1 rfl hK23).drop 3).take 1) rfl fin1)) (dt rfl (gt hb38 rfl (geI rfl rfl rfl fin1)) (dt rfl (pt hb38 rfl rfl fin1) (dt rfl (m1 rfl fin1) (dt rfl (gf hb40 rfl fin1) (dt rfl (gf hb40 rfl fin1) ?_)))))))))))
    refine dt rfl (gf hb40 rfl fin1) (dt rfl (gf hb40 rfl fin1) (dt rfl (gf hb40 rfl fin1) (dt rfl (gf hb40 rfl fin1) (dt rfl (gf hb40 rfl fin1) (dt rfl (gf hb40 rfl fin1) (dt rfl (gf hb40 rfl fin1) (dt rfl (gf hb40 rfl fin1) (dt rfl (gf hb40 rfl fin1) (DF.nil fun K46 hF => (gf hb40 rfl (pf hb40 rfl rfl ?_)))))))))))
    refine a1 rfl (on ?_)
    cases hr45
    intro a w hS hA
    exact ⟨hS.selH [1, 2] rfl, hA.cut ⟨rfl, tv⟩⟩
  ·have hr47 := if_n hb38 hx36
   refine drG 20 mixed (by kernel_rfl) rfl (dt rfl (fb 2 U63 rfl rfl rfl rfl Z3 fin1) (dt rfl (ld G3 rfl rfl (((sS 1 rfl hK23).drop 2).take 1) rfl fin1) (dt rfl (geI rfl rfl rfl fin1) (dt rfl (m1 rfl fin1) (dt rfl (gf hb38 rfl fin1) (dt rfl (gf hb38 rfl fin1) (dt rfl (gf hb38 rfl fin1) (dt rfl (pf hb38 rfl rfl fin1) (dt rfl (m1 rfl fin1) (dt rfl (gF rfl rfl rfl rfl fin1) (dt rfl (gF rfl rfl rfl rfl fin1) ?_)))))))))))
   refine dt rfl (gF rfl rfl rfl rfl fin1) (dt rfl (gF rfl rfl rfl rfl fin1) (dt rfl (gF rfl rfl rfl rfl fin1) (dt rfl (gF rfl rfl rfl rfl fin1) (dt rfl (gF rfl rfl rfl rfl fin1) (dt rfl (gF rfl rfl rfl rfl fin1) (dt rfl (gF rfl rfl rfl rfl fin1) (dt rfl (gF rfl rfl rfl rfl fin1) (dt rfl (gF rfl rfl rfl rfl fin1) (DF.nil fun K48 hF => (gF rfl rfl rfl rfl (pF rfl rfl rfl rfl ?_)))))))))))
   refine a1 rfl (on ?_)
   cases hr47
   intro a w hS hA
   exact ⟨hS.selH [1, 2] rfl, hA.cut ⟨rfl, tv⟩⟩
 ·rintro a w ⟨hS, hA⟩
  refine TG.ap ?_ hS hA
  refine rt_ ?_
  cases hr37
  intro a w hS hA
  refine ret1 hA rfl rfl ?_
  exact ⟨rfl, hS.ext⟩

theorem w115 {M : Prop} {W : World} {H : Hp} (hH : H.le (hp W)) {q_d_0 : Addr} {cs_d_0 : List Value} (d_0 : decided) (hc_d_0 : CellsAt H q_d_0 cs_d_0) (h_d_0 : (Rdecided) H cs_d_0 d_0) {cs_q_1 : List Value} (q_1 : Request) (h_q_1 : (RRequest) H cs_q_1 q_1) {r : Bool} (hr : m115 d_0 q_1 = some r) : Calls Tryz.prog 115 [.pointer (some q_d_0), .agg cs_q_1.toArray].toArray W (RetS M W (.bool r)) := by
 have hh_d_0 := h_d_0
 obtain ⟨ad1, cap2, mp4, ad6, cap7, ad9, cap10, ad12, cap13, ad15, cap16, rfl, hl3, hm5, hl8, hl11, hl14, hl17⟩ := h_d_0
 have := hl3.len
 have := hl8.len
 have := hl11.len
 have := hl14.len
 have := hl17.len
 have hh_q_1 := h_q_1
 obtain ⟨ad18, cap19, rfl, hl20⟩ := h_q_1
 have := hl20.len
 unfold m115 at hr
 refine enterG (M := M) Tryz.func115 rfl Tryz.ntmps115 rfl hH ?_
 refine sq (rg (bI (cs := [.int .i64 q_1.by_, .int .i64 q_1.minute, .int .i64 q_1.from_, .int .i64 q_1.cut, .slice ad18 q_1.put_.length cap19]) rfl rfl rfl fun q21 K22 hK23 => (a1 rfl (on (sq ?_)))))
 obtain ⟨t45, hx46, hr47⟩ := bd_some hr
 refine jn (fun a w => St M W H [K22, H] [] w ∧ Has [] 33 a [(4, .bool t45)]) ?_ ?_
 ·refine rg (fb 3 U63 rfl rfl rfl rfl Z3 (ld G3 rfl rfl (((sS 0 rfl hK23).drop 3).take 1) rfl (leI rfl rfl rfl (m1 rfl ?_))))
  by_cases hb48 : q_1.cut ≤ 8
  ·have hr49 := if_p hb48 hx46
   refine gt hb48 rfl (fb 4 U63 rfl rfl rfl rfl Z24 (gt hb48 rfl (ld G24 rfl rfl ((sS 0 rfl hK23).drop 4) rfl (gt hb48 rfl (lnL U24 rfl rfl (gt hb48 rfl (leI rfl rfl rfl (pt hb48 rfl rfl (m1 rfl ?_)))))))))
   by_cases hb50 : (q_1.put_.length : Int) ≤ 8
   ·have hr51 := if_p hb50 hr49
    refine gt hb50 rfl (fb 4 U63 rfl rfl rfl rfl Z24 (gt hb50 rfl (ld G24 rfl rfl ((sS 0 rfl hK23).drop 4) rfl (gt hb50 rfl ?_))))
    obtain ⟨r53, hx54, hr55⟩ := bd_some hr51
    refine clS (v := .bool r53) C77 rfl rfl rfl rfl (fun w H hH le => by
      have hf52 : FnV M Tryz.prog H (.func (.func 78) [].toArray [].toArray) (SF1 Vs Value.bool (m78)) := ⟨78, [], [], rfl, C78, fun w_ K_ args_ v_ hK hw hs => by obtain ⟨u0_, x0_, r_, rfl, h0_, hx, rfl⟩ := hs; cases h0_; exact w78  x0_  hx⟩
      exact w77 hH (hl20.mono (Flat.mono _) (le.at 1 rfl)) (right := (m78)) hf52 hx54) ?_
    refine pt hb50 rfl rfl (m1 rfl ?_)
    rcases Bool.eq_false_or_eq_true (r53) with hb56 | hb56
    ·have hr57 := if_p hb56 hr55
     refine gN rfl rfl (hb56) (fb 3 U63 rfl rfl rfl rfl Z3 (gN rfl rfl (hb56) (ld G3 rfl rfl (((sS 0 rfl hK23).drop 3).take 1) rfl (gN rfl rfl (hb56) (fb 4 U63 rfl rfl rfl rfl Z24 (gN rfl rfl (hb56) (ld G24 rfl rfl ((sS 0 rfl hK23).drop 4) rfl (gN rfl rfl (hb56) (lnL U24 rfl rfl (gN rfl rfl (hb56) ?_))))))))))
     obtain ⟨hk58, hr59⟩ := chk_some hr57
     refine adI rfl rfl rfl hk58 (gN rfl rfl (hb56) (gtI rfl rfl rfl (pT rfl rfl (hb56) rfl (m1 rfl ?_))))
     by_cases hb60 : 0 < (q_1.cut + (q_1.put_.length : Int))
     ·have hr61 := if_p hb60 hr59
      refine gt hb60 rfl (fb 0 U63 rfl rfl rfl rfl Z3 (gt hb60 rfl (ld G3 rfl rfl ((sS 0 rfl hK23).take 1) rfl (gt hb60 rfl ?_))))
      obtain ⟨r62, hx63, hr64⟩ := bd_some hr61
      refine clS C84 rfl rfl rfl rfl (fun w H hH le => w84 q_1.by_ 0 999 hx63) (pt hb60 rfl rfl (a1 rfl (on ?_)))
      cases hr64
      exact cu ⟨rfl, tv⟩
     ·have hr65 := if_n hb60 hr59
      refine gf hb60 rfl (gf hb60 rfl (gf hb60 rfl (pf hb60 rfl rfl (a1 rfl (on ?_)))))
      cases hr65
      exact cu ⟨rfl, tv⟩
    ·have hr66 := if_f hb56 hr55
     refine gF rfl rfl (hb56) rfl (gF rfl rfl (hb56) rfl (gF rfl rfl (hb56) rfl (gF rfl rfl (hb56) rfl (gF rfl rfl (hb56) rfl (gF rfl rfl (hb56) rfl (gF rfl rfl (hb56) rfl (pF rfl rfl (hb56) rfl (m1 rfl (gF rfl rfl rfl rfl (gF rfl rfl rfl rfl (gF rfl rfl rfl rfl ?_)))))))))))
     refine pF rfl rfl rfl rfl (a1 rfl (on ?_))
     cases hr66
     exact cu ⟨rfl, tv⟩
   ·have hr67 := if_n hb50 hr49
    refine gf hb50 rfl (gf hb50 rfl (gf hb50 rfl (pf hb50 rfl rfl (m1 rfl (gF rfl rfl rfl rfl (gF rfl rfl rfl rfl (gF rfl rfl rfl rfl (gF rfl rfl rfl rfl (gF rfl rfl rfl rfl (gF rfl rfl rfl rfl (gF rfl rfl rfl rfl ?_)))))))))))
    refine pF rfl rfl rfl rfl (m1 rfl (gF rfl rfl rfl rfl (gF rfl rfl rfl rfl (gF rfl rfl rfl rfl (pF rfl rfl rfl rfl (a1 rfl (on ?_)))))))
    cases hr67
    exact cu ⟨rfl, tv⟩
  ·have hr68 := if_n hb48 hx46
   refine gf hb48 rfl (gf hb48 rfl (gf hb48 rfl (gf hb48 rfl (pf hb48 rfl rfl (m1 rfl (gF rfl rfl rfl rfl (gF rfl rfl rfl rfl (gF rfl rfl rfl rfl (pF rfl rfl rfl rfl (m1 rfl (gF rfl rfl rfl rfl ?_)))))))))))
   refine gF rfl rfl rfl rfl (gF rfl rfl rfl rfl (gF rfl rfl rfl rfl (gF rfl rfl rfl rfl (gF rfl rfl rfl rfl (gF rfl rfl rfl rfl (pF rfl rfl rfl rfl (m1 rfl (gF rfl rfl rfl rfl (gF rfl rfl rfl rfl (gF rfl rfl rfl rfl (pF rfl rfl rfl rfl ?_)))))))))))
   refine a1 rfl (on ?_)
   cases hr68
   exact cu ⟨rfl, tv⟩
 ·rintro a w ⟨hS, hA⟩
  refine TG.ap ?_ hS hA
  refine rt_ ?_
  cases hr47
  intro a w hS hA
  refine ret1 hA rfl rfl ?_
  exact ⟨rfl, hS.ext⟩

theorem w143 {M : Prop} {W : World} {H : Hp} (hH : H.le (hp W)) {cs_w_0 : List Value} (w_0 : Said) (h_w_0 : (Flat encSaid) H cs_w_0 w_0) {q_f0_ : Addr} {cs_f0_ : List Value} (f0_ : Request) (hc_f0_ : CellsAt H q_f0_ cs_f0_) (h_f0_ : (RRequest) H cs_f0_ f0_) {r : Bool} (hr : m143 w_0 f0_ = some r) : Calls Tryz.prog 143 [.agg cs_w_0.toArray, .pointer (some q_f0_)].toArray W (RetS M W (.bool r)) := by
 obtain rfl := h_w_0
 have hh_f0_ := h_f0_
 obtain ⟨ad1, cap2, rfl, hl3⟩ := h_f0_
 have := hl3.len
 unfold m143 at hr
 refine enterG (M := M) Tryz.func143 rfl Tryz.ntmps143 rfl hH ?_
 refine sq (rg (bI (cs := [.string (bs w_0.text), .int .i64 w_0.speaker]) rfl rfl rfl fun q4 K5 hK6 => (a1 rfl (on (sq (rg (fb 1 U58 rfl rfl rfl rfl Z3 (ld G3 rfl rfl ((sS 0 rfl hK6).drop 1) rfl (fb 0 U63 rfl rfl rfl rfl Z3 (ld G3 rfl rfl ((sS 1 rfl hc_f0_).take 1) rfl (eqI rfl rfl rfl ?_)))))))))))
 refine a1 rfl (on (rt_ ?_))
 obtain rfl := sj hr
 intro a w hS hA
 refine ret1 hA rfl rfl ?_
 exact ⟨rfl, hS.ext⟩

theorem w69 {M : Prop} {W : World} {H : Hp} (hH : H.le (hp W)) {cs_q_0 : List Value} (q_0 : Request) (h_q_0 : (RRequest) H cs_q_0 q_0) {r : Int} (hr : m69 q_0 = some r) : Calls Tryz.prog 69 [.agg cs_q_0.toArray].toArray W (RetS M W (.int .i64 r)) := by
 have hh_q_0 := h_q_0
 obtain ⟨ad1, cap2, rfl, hl3⟩ := h_q_0
 have := hl3.len
 unfold m69 at hr
 refine enterG (M := M) Tryz.func69 rfl Tryz.ntmps69 rfl hH ?_
 refine sq (rg (bI (cs := [.int .i64 q_0.by_, .int .i64 q_0.minute, .int .i64 q_0.from_, .int .i64 q_0.cut, .slice ad1 q_0.put_.length cap2]) rfl rfl rfl fun q4 K5 hK6 => (a1 rfl (on (sq (rg (fb 2 U63 rfl rfl rfl rfl Z3 (ld G3 rfl rfl (((sS 0 rfl hK6).drop 2).take 1) rfl (fb 3 U63 rfl rfl rfl rfl Z3 (ld G3 rfl rfl (((sS 0 rfl hK6).drop 3).take 1) rfl ?_))))))))))
 obtain ⟨hk7, hr8⟩ := chk_some hr
 refine adI rfl rfl rfl hk7 (a1 rfl (on (rt_ ?_)))
 cases hr8
 intro a w hS hA
 refine ret1 hA rfl rfl ?_
 exact ⟨rfl, hS.ext⟩

theorem w116 {M : Prop} {W : World} {H : Hp} (hH : H.le (hp W)) {q_d_0 : Addr} {cs_d_0 : List Value} (d_0 : decided) (hc_d_0 : CellsAt H q_d_0 cs_d_0) (h_d_0 : (Rdecided) H cs_d_0 d_0) {cs_q_1 : List Value} (q_1 : Request) (h_q_1 : (RRequest) H cs_q_1 q_1) {r : Bool} (hr : m116 d_0 q_1 = some r) : Calls Tryz.prog 116 [.pointer (some q_d_0), .agg cs_q_1.toArray].toArray W (RetS M W (.bool r)) := by
 have hh_d_0 := h_d_0
 obtain ⟨ad1, cap2, mp4, ad6, cap7, ad9, cap10, ad12, cap13, ad15, cap16, rfl, hl3, hm5, hl8, hl11, hl14, hl17⟩ := h_d_0
 have := hl3.len
 have := hl8.len
 have := hl11.len
 have := hl14.len
 have := hl17.len
 have hh_q_1 := h_q_1
 obtain ⟨ad18, cap19, rfl, hl20⟩ := h_q_1
 have := hl20.len
 unfold m116 at hr
 refine enterG (M := M) Tryz.func116 rfl Tryz.ntmps116 rfl hH ?_
 refine sq (rg (bI (cs := [.int .i64 q_1.by_, .int .i64 q_1.minute, .int .i64 q_1.from_, .int .i64 q_1.cut, .slice ad18 q_1.put_.length cap19]) rfl rfl rfl fun q21 K22 hK23 => (a1 rfl (on (sq (rg (fn rfl rfl rfl (a1 rfl (on (sq (sq ?_)))))))))))
 refine rg (fb 3 U63 rfl rfl rfl rfl Z3 (ld G3 rfl rfl (((sS 0 rfl hK23).drop 3).take 1) rfl (gtI rfl rfl rfl (on ?_))))
 refine ci rfl (fun hc47 => ?_) (fun hc47 => ?_)
 ·have hr48 := if_p hc47 hr
  refine sq ?_
  obtain ⟨r49, hx50, hr51⟩ := bd_some hr48
  obtain ⟨hk52, hr53⟩ := chk_some hr51
  obtain ⟨hk54, hr55⟩ := chk_some hr53
  obtain ⟨hk56, hr57⟩ := chk_some hr55
  refine drG 11 mixed (by kernel_rfl) rfl (dt rfl (m1 rfl fin1) (dt rfl (nl rfl rfl fin1) (dt rfl (fb 0 U133 rfl rfl rfl rfl Z56 fin1) (dt rfl (fb 0 U56 rfl rfl rfl rfl Z54 fin1) (dt rfl (ld G54 rfl rfl ((sS 2 rfl hc_d_0).take 1) rfl fin1) (dt rfl (fb 2 U63 rfl rfl rfl rfl Z3 fin1) (dt rfl (ld G3 rfl rfl (((sS 1 rfl hK23).drop 2).take 1) rfl fin1) (dt rfl (ldA G63 Z63 rfl rfl (sS 1 rfl hK23) rfl fin1) (dt rfl (clS C69 rfl rfl rfl rfl (fun w H hH le => w69 hH q_1 (RRequest.mono _ _ _ _ (le.at 2 rfl) hh_q_1) hx50) fin1) (DF.und (α := Option Addr × Nat) (none, 0) (fun q => .slice q.1 (((d_0.report.words.drop q_1.from_.toNat).take (r49.toNat - q_1.from_.toNat)).length) q.2) (fun (q : Option Addr × Nat) K => Sl (Flat encSaid) 2 K q.1 q.2 ((d_0.report.words.drop q_1.from_.toNat).take (r49.toNat - q_1.from_.toNat))) (fun _ _ _ h x => x.mono (Flat.mono _) h) (by kernel_rfl) rfl (fun a w K hS hA hF => TG.pa hS hA (slB q_1.from_.toNat r49.toNat U54 Z58 hl3 rfl rfl rfl rfl rfl (by omega) (by omega) hk56 fun ad58 cap59 hl60 => TG.pack (fun K => Sl (Flat encSaid) 2 K ad58 cap59 ((d_0.report.words.drop q_1.from_.toNat).take (r49.toNat - q_1.from_.toNat))) (fun H le => hl60.mono (Flat.mono _) (le.at 2 rfl)) fun _ hl60 => finU (f := fun q => .slice q.1 (((d_0.report.words.drop q_1.from_.toNat).take (r49.toNat - q_1.from_.toNat)).length) q.2) (G := (fun (q : Option Addr × Nat) K => Sl (Flat encSaid) 2 K q.1 q.2 ((d_0.report.words.drop q_1.from_.toNat).take (r49.toNat - q_1.from_.toNat)))) (_, _) (fun _ _ _ h x => x.mono (Flat.mono _) h) hl60)) ?_))))))))))
  rintro ⟨ad62, cap63⟩
  refine dt rfl (m1 rfl fin1) (DF.nil fun K64 hF => ?_)
  obtain ⟨hu61, _⟩ := hF
  have := hu61.len
  obtain ⟨r66, hx67, hr68⟩ := bd_some hr57
  refine clS (v := .bool r66) C92 rfl rfl rfl rfl (fun w H hH le => by
    have hf65 : FnV M Tryz.prog H (.func (.func 143) [].toArray [.pointer (some q21)].toArray) (SF1 (Va encSaid) Value.bool (fun x0_ => m143 x0_ q_1)) := ⟨143, [], [.pointer (some q21)], rfl, C143, fun w_ K_ args_ v_ hK hw hs => by obtain ⟨u0_, x0_, r_, rfl, h0_, hx, rfl⟩ := hs; cases h0_; exact w143 (H := K_) hw  x0_ rfl q_1 (hK23.mono ((le.at 1 rfl).trans hK)) ⟨_, _, rfl, (hl20.mono (Flat.mono _) ((le.at 2 rfl).trans hK))⟩ hx⟩
    exact w92 hH (hu61.mono (Flat.mono _) (le.at 0 rfl)) (right := (fun x0_ => m143 x0_ q_1)) hf65 hx67) ?_
  refine a1 rfl (on (rt_ ?_))
  cases hr68
  intro a w hS hA
  refine ret1 hA rfl rfl ?_
  exact ⟨rfl, hS.ext⟩
 ·have hr69 := if_n hc47 hr
  refine sk (sq ?_)
  obtain ⟨hk70, hr71⟩ := chk_some hr69
  obtain ⟨hk72, hr73⟩ := chk_some hr71
  obtain ⟨hk74, hr75⟩ := chk_some hr73
  obtain ⟨hk76, hr77⟩ := chk_some hr75
  refine drG 21 mixed (by kernel_rfl) rfl (dt rfl (m1 rfl fin1) (dt rfl (nl rfl rfl fin1) (dt rfl (fb 0 U133 rfl rfl rfl rfl Z56 fin1) (dt rfl (fb 0 U56 rfl rfl rfl rfl Z54 fin1) (dt rfl (ld G54 rfl rfl ((sS 2 rfl hc_d_0).take 1) rfl fin1) (dt rfl (fb 2 U63 rfl rfl rfl rfl Z3 fin1) (dt rfl (ld G3 rfl rfl (((sS 1 rfl hK23).drop 2).take 1) rfl fin1) (dt rfl (sbI rfl rfl rfl hk70 fin1) (dt rfl (mx2 rfl rfl rfl fin1) (dt rfl (m1 rfl fin1) (dt rfl (nl rfl rfl fin1) ?_)))))))))))
  refine dt rfl (fb 0 U133 rfl rfl rfl rfl Z56 fin1) (dt rfl (fb 0 U56 rfl rfl rfl rfl Z54 fin1) (dt rfl (ld G54 rfl rfl ((sS 2 rfl hc_d_0).take 1) rfl fin1) (dt rfl (lnL U54 rfl rfl fin1) (dt rfl (fb 2 U63 rfl rfl rfl rfl Z3 fin1) (dt rfl (ld G3 rfl rfl (((sS 1 rfl hK23).drop 2).take 1) rfl fin1) (dt rfl (adI rfl rfl rfl hk72 fin1) (dt rfl (mn2 rfl rfl rfl fin1) ?_)))))))
  refine DF.und (α := Option Addr × Nat) (none, 0) (fun q => .slice q.1 (((d_0.report.words.drop ((max 0 (q_1.from_ - 1)).toNat)).take ((min (d_0.report.words.length : Int) (q_1.from_ + 1)).toNat - ((max 0 (q_1.from_ - 1)).toNat))).length) q.2) (fun (q : Option Addr × Nat) K => Sl (Flat encSaid) 2 K q.1 q.2 ((d_0.report.words.drop ((max 0 (q_1.from_ - 1)).toNat)).take ((min (d_0.report.words.length : Int) (q_1.from_ + 1)).toNat - ((max 0 (q_1.from_ - 1)).toNat)))) (fun _ _ _ h x => x.mono (Flat.mono _) h) (by kernel_rfl) rfl (fun a w K hS hA hF => TG.pa hS hA (slB ((max 0 (q_1.from_ - 1)).toNat) ((min (d_0.report.words.length : Int) (q_1.from_ + 1)).toNat) U54 Z58 hl3 rfl rfl rfl rfl rfl (by omega) (by omega) hk76 fun ad78 cap79 hl80 => TG.pack (fun K => Sl (Flat encSaid) 2 K ad78 cap79 ((d_0.report.words.drop ((max 0 (q_1.from_ - 1)).toNat)).take ((min (d_0.report.words.length : Int) (q_1.from_ + 1)).toNat - ((max 0 (q_1.from_ - 1)).toNat)))) (fun H le => hl80.mono (Flat.mono _) (le.at 2 rfl)) fun _ hl80 => finU (f := fun q => .slice q.1 (((d_0.report.words.drop ((max 0 (q_1.from_ - 1)).toNat)).take ((min (d_0.report.words.length : Int) (q_1.from_ + 1)).toNat - ((max 0 (q_1.from_ - 1)).toNat))).length) q.2) (G := (fun (q : Option Addr × Nat) K => Sl (Flat encSaid) 2 K q.1 q.2 ((d_0.report.words.drop ((max 0 (q_1.from_ - 1)).toNat)).take ((min (d_0.report.words.length : Int) (q_1.from_ + 1)).toNat - ((max 0 (q_1.from_ - 1)).toNat))))) (_, _) (fun _ _ _ h x => x.mono (Flat.mono _) h) hl80)) ?_
  rintro ⟨ad82, cap83⟩
  refine dt rfl (m1 rfl fin1) (DF.nil fun K84 hF => ?_)
  obtain ⟨hu81, _⟩ := hF
  have := hu81.len
  obtain ⟨r86, hx87, hr88⟩ := bd_some hr77
  refine clS (v := .bool r86) C120 rfl rfl rfl rfl (fun w H hH le => by
    have hf85 : FnV M Tryz.prog H (.func (.func 143) [].toArray [.pointer (some q21)].toArray) (SF1 (Va encSaid) Value.bool (fun x0_ => m143 x0_ q_1)) := ⟨143, [], [.pointer (some q21)], rfl, C143, fun w_ K_ args_ v_ hK hw hs => by obtain ⟨u0_, x0_, r_, rfl, h0_, hx, rfl⟩ := hs; cases h0_; exact w143 (H := K_) hw  x0_ rfl q_1 (hK23.mono ((le.at 1 rfl).trans hK)) ⟨_, _, rfl, (hl20.mono (Flat.mono _) ((le.at 2 rfl).trans hK))⟩ hx⟩
    exact w120 hH (hu81.mono (Flat.mono _) (le.at 0 rfl)) (f_1 := (fun x0_ => m143 x0_ q_1)) hf85 hx87) ?_
  refine a1 rfl (on (rt_ ?_))
  cases hr88
  intro a w hS hA
  refine ret1 hA rfl rfl ?_
  exact ⟨rfl, hS.ext⟩

theorem w117 {M : Prop} {W : World} {H : Hp} (hH : H.le (hp W)) {q_d_0 : Addr} {cs_d_0 : List Value} (d_0 : decided) (hc_d_0 : CellsAt H q_d_0 cs_d_0) (h_d_0 : (Rdecided) H cs_d_0 d_0) {cs_q_1 : List Value} (q_1 : Request) (h_q_1 : (RRequest) H cs_q_1 q_1) {r : Bool} (hr : m117 d_0 q_1 = some r) : Calls Tryz.prog 117 [.pointer (some q_d_0), .agg cs_q_1.toArray].toArray W (RetS M W (.bool r)) := by
 have hh_d_0 := h_d_0
 obtain ⟨ad1, cap2, mp4, ad6, cap7, ad9, cap10, ad12, cap13, ad15, cap16, rfl, hl3, hm5, hl8, hl11, hl14, hl17⟩ := h_d_0
 have := hl3.len
 have := hl8.len
 have := hl11.len
 have := hl14.len
 have := hl17.len
 have hh_q_1 := h_q_1
 obtain ⟨ad18, cap19, rfl, hl20⟩ := h_q_1
 have := hl20.len
 unfold m117 at hr
 refine enterG (M := M) Tryz.func117 rfl Tryz.ntmps117 rfl hH ?_
 refine sq (rg (bI (cs := [.int .i64 q_1.by_, .int .i64 q_1.minute, .int .i64 q_1.from_, .int .i64 q_1.cut, .slice ad18 q_1.put_.length cap19]) rfl rfl rfl fun q21 K22 hK23 => (a1 rfl (on (sq ?_)))))
 obtain ⟨hk24, hr25⟩ := chk_some hr
 refine drG 18 mixed (by kernel_rfl) rfl (dt rfl (fb 1 U63 rfl rfl rfl rfl Z3 fin1) (dt rfl (ld G3 rfl rfl (((sS 1 rfl hK23).drop 1).take 1) rfl fin1) (dt rfl (m1 rfl fin1) (dt rfl (nl rfl rfl fin1) (dt rfl (fb 0 U133 rfl rfl rfl rfl Z56 fin1) (dt rfl (fb 1 U56 rfl rfl rfl rfl Z3 fin1) (dt rfl (ld G3 rfl rfl (((sS 2 rfl hc_d_0).drop 1).take 1) rfl fin1) (dt rfl (m1 rfl fin1) (dt rfl (nl rfl rfl fin1) (dt rfl (fb 0 U133 rfl rfl rfl rfl Z56 fin1) (dt rfl (fb 1 U56 rfl rfl rfl rfl Z3 fin1) ?_)))))))))))
 refine dt rfl (ld G3 rfl rfl (((sS 2 rfl hc_d_0).drop 1).take 1) rfl fin1) (dt rfl (m1 rfl fin1) (dt rfl (nl rfl rfl fin1) (dt rfl (fb 0 U133 rfl rfl rfl rfl Z56 fin1) (dt rfl (fb 2 U56 rfl rfl rfl rfl Z3 fin1) (dt rfl (ld G3 rfl rfl (((sS 2 rfl hc_d_0).drop 2).take 1) rfl fin1) (dt rfl (adI rfl rfl rfl hk24 fin1) (DF.nil fun K26 hF => ?_)))))))
 obtain ⟨r27, hx28, hr29⟩ := bd_some hr25
 refine clS C84 rfl rfl rfl rfl (fun w H hH le => w84 q_1.minute d_0.report.out (d_0.report.out + d_0.report.within) hx28) (a1 rfl (on (rt_ ?_)))
 cases hr29
 intro a w hS hA
 refine ret1 hA rfl rfl ?_
 exact ⟨rfl, hS.ext⟩

theorem w68 {M : Prop} {W : World} {H : Hp} (hH : H.le (hp W)) {cs_r_0 : List Value} (r_0 : Report) (h_r_0 : (RReport) H cs_r_0 r_0) (from_1 : Int) (to_2 : Int) {r : List Bytes} (hr : m68 r_0 from_1 to_2 = some r) : Calls Tryz.prog 68 [.agg cs_r_0.toArray, .int .i64 from_1, .int .i64 to_2].toArray W (RetK M H W (fun v K => ∃ (ad0 : Option Addr) (cap0 : Nat), v = .slice ad0 r.length cap0 ∧ Sl (Flat encS) 1 K ad0 cap0 r)) := by
 have hh_r_0 := h_r_0
 obtain ⟨ad1, cap2, rfl, hl3⟩ := h_r_0
 have := hl3.len
 unfold m68 at hr
 refine enterG (M := M) Tryz.func68 rfl Tryz.ntmps68 rfl hH ?_
 refine sq (rg (bI (cs := [.slice ad1 r_0.words.length cap2, .int .i64 r_0.out, .int .i64 r_0.within]) rfl rfl rfl fun q4 K5 hK6 => (a1 rfl (on (sq (sq (rg (fb 0 U56 rfl rfl rfl rfl Z54 (ld G54 rfl rfl ((sS 0 rfl hK6).take 1) rfl (m1 rfl (m1 rfl ?_)))))))))))
 obtain ⟨hk7, hr8⟩ := chk_some hr
 obtain ⟨hk9, hr10⟩ := chk_some hr8
 obtain ⟨hk11, hr12⟩ := chk_some hr10
 refine slB from_1.toNat to_2.toNat U54 Z58 hl3 rfl rfl rfl rfl rfl (by omega) (by omega) hk11 fun ad13 cap14 hl15 => ?_
 have := hl15.len
 refine lnL U54 rfl rfl (m1 rfl (on (TG.nilRow 2 9 1 (TG.as 2 (z := Own.list none 0 9 1 encS ([] : List Bytes)) rfl rfl ?_))))
 obtain ⟨e82, hl83, hr84⟩ := bd_some hr12
 refine jn (fun a w => ∃ (ad85 : Option Addr) (cap86 : Nat), St M W H [K5, H] [(2, Own.list ad85 cap86 9 1 encS e82)] w ∧ Has [] 26 a [(6, .slice ad85 e82.length cap86)]) ?_ ?_
 ·refine bk ?_
  refine lp hl83 (fun s87 a w => ∃ (ad88 : Option Addr) (cap89 : Nat), St M W H [K5, H] [(2, Own.list ad88 cap89 9 1 encS s87.2)] w ∧ Has [] 26 a [(6, .slice ad88 s87.2.length cap89), (13, .slice ad13 (((r_0.words.drop from_1.toNat).take (to_2.toNat - from_1.toNat)).length) cap14), (14, .int .i64 (((r_0.words.drop from_1.toNat).take (to_2.toNat - from_1.toNat)).length : Int)), (15, .int .i64 (s87.1 : Int))]) ?_ ?_
  ·intro a w hS hA
   exact ⟨none, 0, hS, hA.cut ⟨rfl, rfl, rfl, rfl, tv⟩⟩
  ·rintro j s87 y92 hr90 hz91 a w ⟨ad88, cap89, hS, hA⟩
   refine TG.ap ?_ hS hA
   unfold m68_1 at hr90
   refine sq (rg (ltI rfl rfl rfl (on (sq ?_))))
   refine ci rfl (fun hc96 => ?_) (fun hc96 => ?_)
   ·have hr97 := if_p hc96 hr90
    refine sk (sq (bk (sq (rg ?_))))
    obtain ⟨x114, hx115, hr116⟩ := bd_some hr97
    obtain ⟨p117, rfl⟩ := hl15.adr hx115
    obtain ⟨cs118, hcs119, hq120, hr121⟩ := hl15.at hx115
    obtain rfl := hr121
    refine iaP U54 Z58 rfl rfl rfl rfl (lt_of hx115) (ldA G58 Z58 rfl rfl (sS 1 rfl hq120) rfl (va (cs := [.string (bs x114.text), .int .i64 x114.speaker]) Tryz.zeroValue58 Z58 rfl rfl rfl rfl rfl rfl rfl rfl fun q122 K123 hK124 => (on (rg (m1 rfl (fb 0 U58 rfl rfl rfl rfl Z9 (ld G9 rfl rfl ((sS 0 rfl hK124).take 1) rfl ?_)))))))
    obtain ⟨hk125, hr126⟩ := chk_some hr116
    have := lenA s87.2 [x114.text]
    refine ap1 2 encS (l := s87.2) x114.text T4.E24 rfl rfl rfl rfl rfl rfl rfl rfl rfl rfl rfl rfl hk125 fun ad127 cap128 u129 => (a1 rfl (on (rg (adI rfl rfl rfl (by omega) (m1 rfl (on ?_))))))
    cases hr126
    intro a w hS hA
    exact ⟨_, hz91, ad127, cap128, hS.selH [1, 2] rfl, hA.cut ⟨rfl, rfl, rfl, rfl, tv⟩⟩
   ·have hr130 := if_n hc96 hr90
    refine xt rfl ?_
    cases hr130
    obtain rfl := Fin.out hz91
    intro a w hS hA
    exact ⟨ad88, cap89, hS, hA.cut ⟨rfl, tv⟩⟩
 ·rintro a w ⟨ad85, cap86, hS, hA⟩
  refine TG.ap ?_ hS hA
  refine sq (rg (m1 rfl (a1 rfl (on (rt_ ?_)))))
  cases hr84
  intro a w hS hA
  refine ret1 hA rfl rfl ?_
  exact ⟨⟨_, _, rfl, (hS.listOut 2 rfl (fun _ => rfl))⟩, hS.ext⟩

theorem w161 {M : Prop} {W : World} {H : Hp} (hH : H.le (hp W)) {ad_s1 : Option Addr} {cap_s1 : Nat} {s1 : List Mark} (h_s1 : Sl (Flat encMark) 2 H ad_s1 cap_s1 s1) {ad_s2 : Option Addr} {cap_s2 : Nat} {s2 : List Mark} (h_s2 : Sl (Flat encMark) 2 H ad_s2 cap_s2 s2) {fv_eq : Value} {eq : Mark → Mark → Option Bool} (h_eq : FnV M Tryz.prog H fv_eq (SF2 (Va encMark) (Va encMark) Value.bool eq)) {r : Bool} (hr : m161 s1 s2 eq = some r) : Calls Tryz.prog 161 [.slice ad_s1 s1.length cap_s1, .slice ad_s2 s2.length cap_s2, fv_eq].toArray W (RetS M W (.bool r)) := by
 have := h_s1.len
 have := h_s2.len
 have hh_eq := h_eq
 obtain ⟨f_eq, fi_eq, ca_eq, rfl, _, _⟩ := h_eq
 unfold m161 at hr
 refine enterG (M := M) Tryz.func161 rfl Tryz.ntmps161 rfl hH ?_
 refine sq (rg (a1 rfl (on (sq (sq (rg (m1 rfl (lnL U49 rfl rfl (m1 rfl (lnL U49 rfl rfl (neI rfl rfl rfl ?_)))))))))))
 refine on ?_
 refine ci rfl (fun hc4 => ?_) (fun hc4 => ?_)
 ·have hr5 := if_p hc4 hr
  refine sq (rg (a1 rfl (on (rt_ ?_))))
  cases hr5
  intro a w hS hA
  refine ret1 hA rfl rfl ?_
  exact ⟨rfl, hS.ext⟩
 ·have hr6 := if_n hc4 hr
  refine sk (sq (sq (rg (m1 rfl (lnL U49 rfl rfl (m1 rfl (on ?_)))))))
  obtain ⟨e37, hl38, hr39⟩ := bd_some hr6
  refine jn (fun a w => ∃ t40, e37 = .inl t40 ∧ St M W H [H] [] w ∧ Has [] 32 a []) ?_ ?_
  ·refine bk ?_
   refine lp hl38 (fun s41 a w => St M W H [H] [] w ∧ Has [] 32 a [(1, .slice ad_s2 s2.length cap_s2), (2, .func (.func f_eq) fi_eq.toArray ca_eq.toArray), (15, .slice ad_s1 s1.length cap_s1), (16, .int .i64 (s1.length : Int)), (17, .int .i64 (s41 : Int))]) ?_ ?_
   ·exact cu ⟨rfl, rfl, rfl, rfl, rfl, tv⟩
   ·rintro j s41 y44 hr42 hz43 a w ⟨hS, hA⟩
    refine TG.ap ?_ hS hA
    unfold m161_1 at hr42
    refine sq (rg (ltI rfl rfl rfl (on (sq ?_))))
    refine ci rfl (fun hc48 => ?_) (fun hc48 => ?_)
    ·have hr49 := if_p hc48 hr42
     refine sk (sq (bk (sq (rg (m1 rfl ?_)))))
     obtain ⟨x76, hx77, hr78⟩ := bd_some hr49
     obtain ⟨p79, rfl⟩ := h_s1.adr hx77
     obtain ⟨cs80, hcs81, hq82, hr83⟩ := h_s1.at hx77
     obtain rfl := hr83
     refine iaP U49 Z79 rfl rfl rfl rfl (lt_of hx77) (ldA G79 Z79 rfl rfl (sS 0 rfl hq82) rfl (al 1 (cs := [.int .u8 0, .int .i64 0]) Tryz.zeroValue79 rfl rfl fun b84 => (a1 rfl (sto 1 (cs := [.int .u8 x76.kind, .int .i64 x76.value]) Z79 rfl rfl rfl rfl rfl rfl rfl (on (sq (rg (m1 rfl (m1 rfl ?_)))))))))
     obtain ⟨x85, hx86, hr87⟩ := bd_some hr78
     obtain ⟨p88, rfl⟩ := h_s2.adr hx86
     obtain ⟨cs89, hcs90, hq91, hr92⟩ := h_s2.at hx86
     obtain rfl := hr92
     refine iaP U49 Z79 rfl rfl rfl rfl (lt_of hx86) (ldA G79 Z79 rfl rfl (sS 0 rfl hq91) rfl (va (cs := [.int .u8 x85.kind, .int .i64 x85.value]) Tryz.zeroValue79 Z79 rfl rfl rfl rfl rfl rfl rfl rfl fun q93 K94 hK95 => (on (sq (rg (m1 rfl (ldA G79 Z79 rfl rfl (sO 1 rfl) rfl (ldA G79 Z79 rfl rfl (sS 0 rfl hK95) rfl ?_))))))))
     obtain ⟨r96, hx97, hr98⟩ := bd_some hr87
     refine clV (v := .bool r96) hh_eq 1 rfl rfl rfl rfl (fun H le => ⟨_, _, x76, x85, r96, rfl, rfl, rfl, hx97, rfl⟩) (nt rfl rfl (on ?_))
     refine cb rfl (fun hc102 => ?_) (fun hc102 => ?_)
     ·replace hc102 := nbt hc102
      have hr103 := if_f hc102 hr98
      refine sq (rg (a1 rfl (on (rt_ ?_))))
      cases hr103
      obtain rfl := Fin.out hz43
      cases hr39
      intro a w hS hA
      refine ret1 hA rfl rfl ?_
      exact ⟨rfl, hS.ext⟩
     ·replace hc102 := nbf hc102
      have hr104 := if_p hc102 hr98
      refine sk (rg (adI rfl rfl rfl (by omega) (m1 rfl (on (TG.del 1 ?_)))))
      cases hr104
      intro a w hS hA
      exact ⟨_, hz43, hS.selH [1] rfl, hA.cut ⟨rfl, rfl, rfl, rfl, rfl, tv⟩⟩
    ·have hr105 := if_n hc48 hr42
     refine xt rfl ?_
     cases hr105
     obtain rfl := Fin.out hz43
     intro a w hS hA
     exact ⟨_, rfl, hS, hA.cut tv⟩
  ·rintro a w ⟨t40, rfl, hS, hA⟩
   refine TG.ap ?_ hS hA
   refine sq (rg (a1 rfl (on (rt_ ?_))))
   cases hr39
   intro a w hS hA
   refine ret1 hA rfl rfl ?_
   exact ⟨rfl, hS.ext⟩

theorem w144 {M : Prop} {W : World} {H : Hp} (hH : H.le (hp W)) {cs_r_0 : List Value} (r_0 : rules) (h_r_0 : (Rrules) H cs_r_0 r_0) {ad_a_1 : Option Addr} {cap_a_1 : Nat} {a_1 : List Mark} (h_a_1 : Sl (Flat encMark) 2 H ad_a_1 cap_a_1 a_1) {ad_b_2 : Option Addr} {cap_b_2 : Nat} {b_2 : List Mark} (h_b_2 : Sl (Flat encMark) 2 H ad_b_2 cap_b_2 b_2) {r : Bool} (hr : m144 r_0 a_1 b_2 = some r) : Calls Tryz.prog 144 [.agg cs_r_0.toArray, .slice ad_a_1 a_1.length cap_a_1, .slice ad_b_2 b_2.length cap_b_2].toArray W (RetS M W (.bool r)) := by
 have hh_r_0 := h_r_0
 obtain ⟨mp1, ad3, cap4, rfl, hm2, hl5⟩ := h_r_0
 have := hl5.len
 have := h_a_1.len
 have := h_b_2.len
 unfold m144 at hr
 refine enterG (M := M) Tryz.func144 rfl Tryz.ntmps144 rfl hH ?_
 refine sq (rg ?_)
 obtain ⟨b6, rfl⟩ := Mp.isMap hm2
 refine bI (cs := [.map b6, .slice ad3 r_0.swaps.length cap4]) rfl rfl rfl fun q7 K8 hK9 => (a1 rfl (on (sq (rg (m1 rfl (m1 rfl (ldA G117 Z117 rfl rfl (sS 0 rfl hK9) rfl (fn rfl rfl rfl ?_))))))))
 obtain ⟨r11, hx12, hr13⟩ := bd_some hr
 refine clS (v := .bool r11) C161 rfl rfl rfl rfl (fun w H hH le => by
   have hf10 : FnV M Tryz.prog H (.func (.func 79) [.agg [.map b6, .slice ad3 r_0.swaps.length cap4].toArray].toArray [].toArray) (SF2 (Va encMark) (Va encMark) Value.bool (m79 r_0)) := ⟨79, [.agg [.map b6, .slice ad3 r_0.swaps.length cap4].toArray], [], rfl, C79, fun w_ K_ args_ v_ hK hw hs => by obtain ⟨u0_, u1_, x0_, x1_, r_, rfl, h0_, h1_, hx, rfl⟩ := hs; cases h0_; cases h1_; exact w79 (H := K_) hw r_0 (Rrules.mono _ _ _ _ ((le.at 1 rfl).trans hK) hh_r_0) x0_ rfl x1_ rfl  hx⟩
   exact w161 hH (h_a_1.mono (Flat.mono _) (le.at 1 rfl)) (h_b_2.mono (Flat.mono _) (le.at 1 rfl)) (eq := (m79 r_0)) hf10 hx12) ?_
 refine a1 rfl (on (rt_ ?_))
 cases hr13
 intro a w hS hA
 refine ret1 hA rfl rfl ?_
 exact ⟨rfl, hS.ext⟩

theorem w118 {M : Prop} {W : World} {H : Hp} (hH : H.le (hp W)) (hg : Gv M H) {q_d_0 : Addr} {cs_d_0 : List Value} (d_0 : decided) (hc_d_0 : CellsAt H q_d_0 cs_d_0) (h_d_0 : (Rdecided) H cs_d_0 d_0) {cs_q_1 : List Value} (q_1 : Request) (h_q_1 : (RRequest) H cs_q_1 q_1) {r : Bool} (hr : m118 d_0 q_1 = some r) : Calls Tryz.prog 118 [.pointer (some q_d_0), .agg cs_q_1.toArray].toArray W (RetS M W (.bool r)) := by
 have hh_d_0 := h_d_0
 obtain ⟨ad1, cap2, mp4, ad6, cap7, ad9, cap10, ad12, cap13, ad15, cap16, rfl, hl3, hm5, hl8, hl11, hl14, hl17⟩ := h_d_0
 have := hl3.len
 have := hl8.len
 have := hl11.len
 have := hl14.len
 have := hl17.len
 have hh_q_1 := h_q_1
 obtain ⟨ad18, cap19, rfl, hl20⟩ := h_q_1
 have := hl20.len
 unfold m118 at hr
 refine enterG (M := M) Tryz.func118 rfl Tryz.ntmps118 rfl hH ?_
 refine sq (rg (bI (cs := [.int .i64 q_1.by_, .int .i64 q_1.minute, .int .i64 q_1.from_, .int .i64 q_1.cut, .slice ad18 q_1.put_.length cap19]) rfl rfl rfl fun q21 K22 hK23 => (a1 rfl (on (sq ?_)))))
 obtain ⟨r24, hx25, hr26⟩ := bd_some hr
 obtain ⟨r27, hx28, hr29⟩ := bd_some hr26
 obtain ⟨r37, hx38, hr39⟩ := bd_some hr29
 obtain ⟨r47, hx48, hr49⟩ := bd_some hr39
 refine drG 27 mixed (by kernel_rfl) rfl (dt rfl (m1 rfl fin1) (dt rfl (nl rfl rfl fin1) (dt rfl (fb 3 U133 rfl rfl rfl rfl Z117 fin1) (dt rfl (ldA G117 Z117 rfl rfl (((sS 2 rfl hc_d_0).drop 3).take 2) rfl fin1) (dt rfl (m1 rfl fin1) (dt rfl (nl rfl rfl fin1) (dt rfl (fb 3 U133 rfl rfl rfl rfl Z117 fin1) (dt rfl (fb 0 U117 rfl rfl rfl rfl Z115 fin1) (dt rfl (ld G115 rfl rfl (((sS 2 rfl hc_d_0).drop 3).take 1) rfl fin1) (dt rfl (m1 rfl fin1) (dt rfl (nl rfl rfl fin1) ?_)))))))))))
 refine dt rfl (fb 0 U133 rfl rfl rfl rfl Z56 fin1) (dt rfl (ldA G56 Z56 rfl rfl ((sS 2 rfl hc_d_0).take 3) rfl fin1) (dt rfl (fb 2 U63 rfl rfl rfl rfl Z3 fin1) (dt rfl (ld G3 rfl rfl (((sS 1 rfl hK23).drop 2).take 1) rfl fin1) (dt rfl (ldA G63 Z63 rfl rfl (sS 1 rfl hK23) rfl fin1) (dt rfl (clS C69 rfl rfl rfl rfl (fun w H hH le => w69 hH q_1 (RRequest.mono _ _ _ _ (le.at 2 rfl) hh_q_1) hx25) fin1) ?_)))))
 refine DF.und (α := Option Addr × Nat) (none, 0) (fun q => .slice q.1 r27.length q.2) (fun (q : Option Addr × Nat) K => Sl (Flat encS) 1 K q.1 q.2 r27) (fun _ _ _ h x => x.mono (Flat.mono _) h) (by kernel_rfl) rfl (fun a w K hS hA hF => TG.pa hS hA (clK C68 rfl rfl rfl rfl (fun w H hH le => w68 hH d_0.report ⟨_, _, rfl, (hl3.mono (Flat.mono _) (le.at 2 rfl))⟩ q_1.from_ r24 hx28) (by
   rintro v_ K30 ⟨ad31, cap32, rfl, hl33⟩
   exact finU (f := fun q => .slice q.1 r27.length q.2) (G := (fun (q : Option Addr × Nat) K => Sl (Flat encS) 1 K q.1 q.2 r27)) (_, _) (fun _ _ _ h x => x.mono (Flat.mono _) h) hl33))) ?_
 rintro ⟨ad35, cap36⟩
 refine DF.und (α := Option Addr × Nat) (none, 0) (fun q => .slice q.1 r37.length q.2) (fun (q : Option Addr × Nat) K => Sl (Flat encMark) 2 K q.1 q.2 r37) (fun _ _ _ h x => x.mono (Flat.mono _) h) (by kernel_rfl) rfl (fun a w K hS hA hF => TG.pa hS hA (clK C54 rfl rfl rfl rfl (fun w H hH le => w54 hH (hg.mono (le.at 2 rfl)) (m_0 := d_0.rules.meanings) (hm5.mono (le.at 2 rfl)) ((hF.1 rfl).mono (Flat.mono _) (le.at 0 rfl)) hx38) (by
   rintro v_ K40 ⟨ad41, cap42, rfl, hl43⟩
   exact finU (f := fun q => .slice q.1 r37.length q.2) (G := (fun (q : Option Addr × Nat) K => Sl (Flat encMark) 2 K q.1 q.2 r37)) (_, _) (fun _ _ _ h x => x.mono (Flat.mono _) h) hl43))) ?_
 rintro ⟨ad45, cap46⟩
 refine dt rfl (m1 rfl fin1) (dt rfl (nl rfl rfl fin1) (dt rfl (fb 3 U133 rfl rfl rfl rfl Z117 fin1) (dt rfl (fb 0 U117 rfl rfl rfl rfl Z115 fin1) (dt rfl (ld G115 rfl rfl (((sS 2 rfl hc_d_0).drop 3).take 1) rfl fin1) (dt rfl (fb 4 U63 rfl rfl rfl rfl Z24 fin1) (dt rfl (ld G24 rfl rfl ((sS 1 rfl hK23).drop 4) rfl fin1) ?_))))))
 refine DF.und (α := Option Addr × Nat) (none, 0) (fun q => .slice q.1 r47.length q.2) (fun (q : Option Addr × Nat) K => Sl (Flat encMark) 2 K q.1 q.2 r47) (fun _ _ _ h x => x.mono (Flat.mono _) h) (by kernel_rfl) rfl (fun a w K hS hA hF => TG.pa hS hA (clK C54 rfl rfl rfl rfl (fun w H hH le => w54 hH (hg.mono (le.at 2 rfl)) (m_0 := d_0.rules.meanings) (hm5.mono (le.at 2 rfl)) (hl20.mono (Flat.mono _) (le.at 2 rfl)) hx48) (by
   rintro v_ K50 ⟨ad51, cap52, rfl, hl53⟩
   exact finU (f := fun q => .slice q.1 r47.length q.2) (G := (fun (q : Option Addr × Nat) K => Sl (Flat encMark) 2 K q.1 q.2 r47)) (_, _) (fun _ _ _ h x => x.mono (Flat.mono _) h) hl53))) ?_
 rintro ⟨ad55, cap56⟩
 refine DF.nil fun K57 hF => ?_
 obtain ⟨hu54, hu44, hu34, _⟩ := hF
 have := hu34.len
 have := hu44.len
 have := hu54.len
 obtain ⟨r58, hx59, hr60⟩ := bd_some hr49
 refine clS C144 rfl rfl rfl rfl (fun w H hH le => w144 hH d_0.rules ⟨_, _, _, rfl, (hm5.mono (le.at 2 rfl)), (hl8.mono (Flat.mono _) (le.at 2 rfl))⟩ (hu44.mono (Flat.mono _) (le.at 0 rfl)) (hu54.mono (Flat.mono _) (le.at 0 rfl)) hx59) (a1 rfl (on (rt_ ?_)))
 cases hr60
 intro a w hS hA
 refine ret1 hA rfl rfl ?_
 exact ⟨rfl, hS.ext⟩

theorem w146F (n_ : Nat) : ∀ {M : Prop} {W : World} {H : Hp} (hH : H.le (hp W)) {cs_q_0 : List Value} (q_0 : Request) (h_q_0 : (RRequest) H cs_q_0 q_0) {cs_o_1 : List Value} (o_1 : Request) (h_o_1 : (RRequest) H cs_o_1 o_1) {r : Bool}, m146F n_ q_0 o_1 = some r → Calls Tryz.prog 146 [.agg cs_q_0.toArray, .agg cs_o_1.toArray].toArray W (RetS M W (.bool r)) := by
 induction n_ with
 | zero => intro M W H hH cs_q_0 q_0 h_q_0 cs_o_1 o_1 h_o_1 r hr; cases hr
 | succ n_ ih_ =>
  intro M W H hH cs_q_0 q_0 h_q_0 cs_o_1 o_1 h_o_1 r hr
  have hh_q_0 := h_q_0
  obtain ⟨ad1, cap2, rfl, hl3⟩ := h_q_0
  have := hl3.len
  have hh_o_1 := h_o_1
  obtain ⟨ad4, cap5, rfl, hl6⟩ := h_o_1
  have := hl6.len
  unfold m146F at hr
  refine enterG (M := M) Tryz.func146 rfl Tryz.ntmps146 rfl hH ?_
  refine sq (rg (bI (cs := [.int .i64 q_0.by_, .int .i64 q_0.minute, .int .i64 q_0.from_, .int .i64 q_0.cut, .slice ad1 q_0.put_.length cap2]) rfl rfl rfl fun q7 K8 hK9 => (bI (cs := [.int .i64 o_1.by_, .int .i64 o_1.minute, .int .i64 o_1.from_, .int .i64 o_1.cut, .slice ad4 o_1.put_.length cap5]) rfl rfl rfl fun q10 K11 hK12 => (a1 rfl (on (sq (bk (sq ?_))))))))
  obtain ⟨t41, hx42, hr43⟩ := bd_some hr
  refine jn (fun a w => St M W H [K11, K8, H] [] w ∧ Has [] 54 a [(2, .pointer (some q7)), (3, .pointer (some q10)), (5, .bool t41)]) ?_ ?_
  ·refine rg (fb 3 U63 rfl rfl rfl rfl Z3 (ld G3 rfl rfl (((sS 1 rfl hK9).drop 3).take 1) rfl (eqI rfl rfl rfl (m1 rfl ?_))))
   by_cases hb44 : q_0.cut = 0
   ·have hr45 := if_p hb44 hx42
    refine gt hb44 rfl (fb 3 U63 rfl rfl rfl rfl Z3 (gt hb44 rfl (ld G3 rfl rfl (((sS 0 rfl hK12).drop 3).take 1) rfl (gt hb44 rfl (eqI rfl rfl rfl (pt hb44 rfl rfl (a1 rfl (on ?_))))))))
    cases hr45
    exact cu ⟨rfl, rfl, rfl, tv⟩
   ·have hr46 := if_n hb44 hx42
    refine gf hb44 rfl (gf hb44 rfl (gf hb44 rfl (pf hb44 rfl rfl (a1 rfl (on ?_)))))
    cases hr46
    exact cu ⟨rfl, rfl, rfl, tv⟩
  ·rintro a w ⟨hS, hA⟩
   refine TG.ap ?_ hS hA
   refine cb rfl (fun hc68 => ?_) (fun hc68 => ?_)
   ·have hr69 := if_p hc68 hr43
    refine sq (rg (fb 2 U63 rfl rfl rfl rfl Z3 (ld G3 rfl rfl (((sS 1 rfl hK9).drop 2).take 1) rfl (fb 2 U63 rfl rfl rfl rfl Z3 (ld G3 rfl rfl (((sS 0 rfl hK12).drop 2).take 1) rfl (eqI rfl rfl rfl (a1 rfl (on (rt_ ?_)))))))))
    cases hr69
    intro a w hS hA
    refine ret1 hA rfl rfl ?_
    exact ⟨rfl, hS.ext⟩
   ·have hr70 := if_f hc68 hr43
    refine sq (rg (fb 3 U63 rfl rfl rfl rfl Z3 (ld G3 rfl rfl (((sS 1 rfl hK9).drop 3).take 1) rfl (eqI rfl rfl rfl (a1 rfl (on ?_))))))
    refine ci rfl (fun hc89 => ?_) (fun hc89 => ?_)
    ·have hr90 := if_p hc89 hr70
     refine sq ?_
     obtain ⟨t99, hx100, hr101⟩ := bd_some hr90
     refine jn (fun a w => St M W H [K11, K8, H] [] w ∧ Has [] 54 a [(4, .bool t99)]) ?_ ?_
     ·by_cases hb102 : o_1.from_ < q_0.from_
      ·have hr103 := if_p hb102 hx100
       obtain ⟨r104, hx105, hr106⟩ := bd_some hr103
       refine drG 10 mixed (by kernel_rfl) rfl (dt rfl (fb 2 U63 rfl rfl rfl rfl Z3 fin1) (dt rfl (ld G3 rfl rfl (((sS 1 rfl hK12).drop 2).take 1) rfl fin1) (dt rfl (fb 2 U63 rfl rfl rfl rfl Z3 fin1) (dt rfl (ld G3 rfl rfl (((sS 2 rfl hK9).drop 2).take 1) rfl fin1) (dt rfl (ltI rfl rfl rfl fin1) (dt rfl (m1 rfl fin1) (dt rfl (gt hb102 rfl (fb 2 U63 rfl rfl rfl rfl Z3 fin1)) (dt rfl (gt hb102 rfl (ld G3 rfl rfl (((sS 2 rfl hK9).drop 2).take 1) rfl fin1)) (dt rfl (gt hb102 rfl (ldA G63 Z63 rfl rfl (sS 1 rfl hK12) rfl fin1)) (dt rfl (gt hb102 rfl (clS C69 rfl rfl rfl rfl (fun w H hH le => w69 hH o_1 (RRequest.mono _ _ _ _ (le.at 3 rfl) hh_o_1) hx105) fin1)) (DF.nil fun K107 hF => ?_)))))))))))
       refine gt hb102 rfl (ltI rfl rfl rfl (pt hb102 rfl rfl (a1 rfl (on ?_))))
       cases hr106
       intro a w hS hA
       exact ⟨hS.selH [1, 2, 3] rfl, hA.cut ⟨rfl, tv⟩⟩
      ·have hr108 := if_n hb102 hx100
       refine drG 10 mixed (by kernel_rfl) rfl (dt rfl (fb 2 U63 rfl rfl rfl rfl Z3 fin1) (dt rfl (ld G3 rfl rfl (((sS 1 rfl hK12).drop 2).take 1) rfl fin1) (dt rfl (fb 2 U63 rfl rfl rfl rfl Z3 fin1) (dt rfl (ld G3 rfl rfl (((sS 2 rfl hK9).drop 2).take 1) rfl fin1) (dt rfl (ltI rfl rfl rfl fin1) (dt rfl (m1 rfl fin1) (dt rfl (gf hb102 rfl fin1) (dt rfl (gf hb102 rfl fin1) (dt rfl (gf hb102 rfl fin1) (dt rfl (gf hb102 rfl fin1) (DF.nil fun K109 hF => ?_)))))))))))
       refine gf hb102 rfl (pf hb102 rfl rfl (a1 rfl (on ?_)))
       cases hr108
       intro a w hS hA
       exact ⟨hS.selH [1, 2, 3] rfl, hA.cut ⟨rfl, tv⟩⟩
     ·rintro a w ⟨hS, hA⟩
      refine TG.ap ?_ hS hA
      refine rt_ ?_
      cases hr101
      intro a w hS hA
      refine ret1 hA rfl rfl ?_
      exact ⟨rfl, hS.ext⟩
    ·have hr110 := if_n hc89 hr70
     refine sq (rg (fb 3 U63 rfl rfl rfl rfl Z3 (ld G3 rfl rfl (((sS 0 rfl hK12).drop 3).take 1) rfl (eqI rfl rfl rfl (a1 rfl (on ?_))))))
     refine ci rfl (fun hc117 => ?_) (fun hc117 => ?_)
     ·have hr118 := if_p hc117 hr110
      refine sq (rg (ldA G63 Z63 rfl rfl (sS 0 rfl hK12) rfl (ldA G63 Z63 rfl rfl (sS 1 rfl hK9) rfl ?_)))
      obtain ⟨r119, hx120, hr121⟩ := bd_some hr118
      refine clS C146 rfl rfl rfl rfl (fun w H hH le => ih_ hH o_1 (RRequest.mono _ _ _ _ (le.at 2 rfl) hh_o_1) q_0 (RRequest.mono _ _ _ _ (le.at 2 rfl) hh_q_0) hx120) (a1 rfl (on (rt_ ?_)))
      cases hr121
      intro a w hS hA
      refine ret1 hA rfl rfl ?_
      exact ⟨rfl, hS.ext⟩
     ·have hr122 := if_n hc117 hr110
      refine sk (sq ?_)
      obtain ⟨t134, hx135, hr136⟩ := bd_some hr122
      refine jn (fun a w => St M W H [K11, K8, H] [] w ∧ Has [] 54 a [(4, .bool t134)]) ?_ ?_
      ·obtain ⟨r137, hx138, hr139⟩ := bd_some hx135
       by_cases hb140 : q_0.from_ < r137
       ·have hr141 := if_p hb140 hr139
        obtain ⟨r142, hx143, hr144⟩ := bd_some hr141
        refine drG 10 mixed (by kernel_rfl) rfl (dt rfl (fb 2 U63 rfl rfl rfl rfl Z3 fin1) (dt rfl (ld G3 rfl rfl (((sS 2 rfl hK9).drop 2).take 1) rfl fin1) (dt rfl (ldA G63 Z63 rfl rfl (sS 1 rfl hK12) rfl fin1) (dt rfl (clS C69 rfl rfl rfl rfl (fun w H hH le => w69 hH o_1 (RRequest.mono _ _ _ _ (le.at 3 rfl) hh_o_1) hx138) fin1) (dt rfl (ltI rfl rfl rfl fin1) (dt rfl (m1 rfl fin1) (dt rfl (gt hb140 rfl (fb 2 U63 rfl rfl rfl rfl Z3 fin1)) (dt rfl (gt hb140 rfl (ld G3 rfl rfl (((sS 1 rfl hK12).drop 2).take 1) rfl fin1)) (dt rfl (gt hb140 rfl (ldA G63 Z63 rfl rfl (sS 2 rfl hK9) rfl fin1)) (dt rfl (gt hb140 rfl (clS C69 rfl rfl rfl rfl (fun w H hH le => w69 hH q_0 (RRequest.mono _ _ _ _ (le.at 3 rfl) hh_q_0) hx143) fin1)) (DF.nil fun K145 hF => ?_)))))))))))
        refine gt hb140 rfl (ltI rfl rfl rfl (pt hb140 rfl rfl (a1 rfl (on ?_))))
        cases hr144
        intro a w hS hA
        exact ⟨hS.selH [1, 2, 3] rfl, hA.cut ⟨rfl, tv⟩⟩
       ·have hr146 := if_n hb140 hr139
        refine drG 10 mixed (by kernel_rfl) rfl (dt rfl (fb 2 U63 rfl rfl rfl rfl Z3 fin1) (dt rfl (ld G3 rfl rfl (((sS 2 rfl hK9).drop 2).take 1) rfl fin1) (dt rfl (ldA G63 Z63 rfl rfl (sS 1 rfl hK12) rfl fin1) (dt rfl (clS C69 rfl rfl rfl rfl (fun w H hH le => w69 hH o_1 (RRequest.mono _ _ _ _ (le.at 3 rfl) hh_o_1) hx138) fin1) (dt rfl (ltI rfl rfl rfl fin1) (dt rfl (m1 rfl fin1) (dt rfl (gf hb140 rfl fin1) (dt rfl (gf hb140 rfl fin1) (dt rfl (gf hb140 rfl fin1) (dt rfl (gf hb140 rfl fin1) (DF.nil fun K147 hF => ?_)))))))))))
        refine gf hb140 rfl (pf hb140 rfl rfl (a1 rfl (on ?_)))
        cases hr146
        intro a w hS hA
        exact ⟨hS.selH [1, 2, 3] rfl, hA.cut ⟨rfl, tv⟩⟩
      ·rintro a w ⟨hS, hA⟩
       refine TG.ap ?_ hS hA
       refine rt_ ?_
       cases hr136
       intro a w hS hA
       refine ret1 hA rfl rfl ?_
       exact ⟨rfl, hS.ext⟩
theorem w146 {M : Prop} {W : World} {H : Hp} (hH : H.le (hp W)) {cs_q_0 : List Value} (q_0 : Request) (h_q_0 : (RRequest) H cs_q_0 q_0) {cs_o_1 : List Value} (o_1 : Request) (h_o_1 : (RRequest) H cs_o_1 o_1) {r : Bool} (hr : m146 q_0 o_1 = some r) : Calls Tryz.prog 146 [.agg cs_q_0.toArray, .agg cs_o_1.toArray].toArray W (RetS M W (.bool r)) := by
 obtain ⟨n_, hn⟩ := rec_some (show recO (fun n_ => m146F n_ q_0 o_1) = some r from hr)
 exact w146F n_ hH q_0 h_q_0 o_1 h_o_1 hn

theorem w162 {M : Prop} {W : World} {H : Hp} (hH : H.le (hp W)) {ad_s_0 : Option Addr} {cap_s_0 : Nat} {s_0 : List Request} (h_s_0 : Sl (RRequest) 5 H ad_s_0 cap_s_0 s_0) {fv_f_1 : Value} {f_1 : Request → Option Bool} (h_f_1 : FnV M Tryz.prog H fv_f_1 (SF1 (Vr RRequest) Value.bool f_1)) {r : Int} (hr : m162 s_0 f_1 = some r) : Calls Tryz.prog 162 [.slice ad_s_0 s_0.length cap_s_0, fv_f_1].toArray W (RetS M W (.int .i64 r)) := by
 have := h_s_0.len
 have hh_f_1 := h_f_1
 obtain ⟨f_f_1, fi_f_1, ca_f_1, rfl, _, _⟩ := h_f_1
 unfold m162 at hr
 refine enterG (M := M) Tryz.func162 rfl Tryz.ntmps162 rfl hH ?_
 refine sq (rg (a1 rfl (on (sq (sq (rg (m1 rfl (lnL U64 rfl rfl (m1 rfl (on ?_))))))))))
 obtain ⟨e23, hl24, hr25⟩ := bd_some hr
 refine jn (fun a w => ∃ t26, e23 = .inl t26 ∧ St M W H [H] [] w ∧ Has [] 19 a []) ?_ ?_
 ·refine bk ?_
  refine lp hl24 (fun s27 a w => St M W H [H] [] w ∧ Has [] 19 a [(0, .slice ad_s_0 s_0.length cap_s_0), (1, .func (.func f_f_1) fi_f_1.toArray ca_f_1.toArray), (7, .int .i64 (s_0.length : Int)), (8, .int .i64 (s27 : Int))]) ?_ ?_
  ·exact cu ⟨rfl, rfl, rfl, rfl, tv⟩
  ·rintro j s27 y30 hr28 hz29 a w ⟨hS, hA⟩
   refine TG.ap ?_ hS hA
   unfold m162_1 at hr28
   refine sq (rg (ltI rfl rfl rfl (on (sq ?_))))
   refine ci rfl (fun hc34 => ?_) (fun hc34 => ?_)
   ·have hr35 := if_p hc34 hr28
    refine sk (sq (bk (sq (rg (m1 rfl (a1 rfl (on (sq (rg (m1 rfl (m1 rfl ?_)))))))))))
    refine m1 rfl ?_
    obtain ⟨x54, hx55, hr56⟩ := bd_some hr35
    obtain ⟨p57, rfl⟩ := h_s_0.adr hx55
    obtain ⟨cs58, hcs59, hq60, hr61⟩ := h_s_0.at hx55
    have hr62 := hr61
    obtain ⟨ad63, cap64, rfl, hl65⟩ := hr61
    have := hl65.len
    refine iaP U64 Z63 rfl rfl rfl rfl (lt_of hx55) (ldA G63 Z63 rfl rfl (sS 0 rfl hq60) rfl ?_)
    obtain ⟨r66, hx67, hr68⟩ := bd_some hr56
    refine clV (v := .bool r66) hh_f_1 0 rfl rfl rfl rfl (fun H le => ⟨_, x54, r66, rfl, ⟨_, rfl, (RRequest.mono _ _ _ _ (le.at 0 rfl) hr62)⟩, hx67, rfl⟩) (on ?_)
    refine cb rfl (fun hc72 => ?_) (fun hc72 => ?_)
    ·have hr73 := if_p hc72 hr68
     refine sq (rg (m1 rfl (a1 rfl (on (rt_ ?_)))))
     cases hr73
     obtain rfl := Fin.out hz29
     cases hr25
     intro a w hS hA
     refine ret1 hA rfl rfl ?_
     exact ⟨rfl, hS.ext⟩
    ·have hr74 := if_f hc72 hr68
     refine sk (rg (adI rfl rfl rfl (by omega) (m1 rfl (on ?_))))
     cases hr74
     intro a w hS hA
     exact ⟨_, hz29, hS, hA.cut ⟨rfl, rfl, rfl, rfl, tv⟩⟩
   ·have hr75 := if_n hc34 hr28
    refine xt rfl ?_
    cases hr75
    obtain rfl := Fin.out hz29
    intro a w hS hA
    exact ⟨_, rfl, hS, hA.cut tv⟩
 ·rintro a w ⟨t26, rfl, hS, hA⟩
  refine TG.ap ?_ hS hA
  refine sq (rg (a1 rfl (on (rt_ ?_))))
  cases hr25
  intro a w hS hA
  refine ret1 hA rfl rfl ?_
  exact ⟨rfl, hS.ext⟩

theorem w145 {M : Prop} {W : World} {H : Hp} (hH : H.le (hp W)) {ad_s_0 : Option Addr} {cap_s_0 : Nat} {s_0 : List Request} (h_s_0 : Sl (RRequest) 5 H ad_s_0 cap_s_0 s_0) {fv_f_1 : Value} {f_1 : Request → Option Bool} (h_f_1 : FnV M Tryz.prog H fv_f_1 (SF1 (Vr RRequest) Value.bool f_1)) {r : Bool} (hr : m145 s_0 f_1 = some r) : Calls Tryz.prog 145 [.slice ad_s_0 s_0.length cap_s_0, fv_f_1].toArray W (RetS M W (.bool r)) := by
 have := h_s_0.len
 have hh_f_1 := h_f_1
 obtain ⟨f_f_1, fi_f_1, ca_f_1, rfl, _, _⟩ := h_f_1
 unfold m145 at hr
 refine enterG (M := M) Tryz.func145 rfl Tryz.ntmps145 rfl hH ?_
 refine sq (rg (a1 rfl (on (sq (rg (m1 rfl (m1 rfl ?_)))))))
 obtain ⟨r1, hx2, hr3⟩ := bd_some hr
 refine clS C162 rfl rfl rfl rfl (fun w H hH le => w162 hH (h_s_0.mono (RRequest.mono) (le.at 0 rfl)) (f_1 := f_1) (hh_f_1.mono (le.at 0 rfl)) hx2) (geI rfl rfl rfl (a1 rfl (on (rt_ ?_))))
 cases hr3
 intro a w hS hA
 refine ret1 hA rfl rfl ?_
 exact ⟨rfl, hS.ext⟩

theorem w119 {M : Prop} {W : World} {H : Hp} (hH : H.le (hp W)) {q_d_0 : Addr} {cs_d_0 : List Value} (d_0 : decided) (hc_d_0 : CellsAt H q_d_0 cs_d_0) (h_d_0 : (Rdecided) H cs_d_0 d_0) {cs_q_1 : List Value} (q_1 : Request) (h_q_1 : (RRequest) H cs_q_1 q_1) {r : Bool} (hr : m119 d_0 q_1 = some r) : Calls Tryz.prog 119 [.pointer (some q_d_0), .agg cs_q_1.toArray].toArray W (RetS M W (.bool r)) := by
 have hh_d_0 := h_d_0
 obtain ⟨ad1, cap2, mp4, ad6, cap7, ad9, cap10, ad12, cap13, ad15, cap16, rfl, hl3, hm5, hl8, hl11, hl14, hl17⟩ := h_d_0
 have := hl3.len
 have := hl8.len
 have := hl11.len
 have := hl14.len
 have := hl17.len
 have hh_q_1 := h_q_1
 obtain ⟨ad18, cap19, rfl, hl20⟩ := h_q_1
 have := hl20.len
 unfold m119 at hr
 refine enterG (M := M) Tryz.func119 rfl Tryz.ntmps119 rfl hH ?_
 refine sq (rg (bI (cs := [.int .i64 q_1.by_, .int .i64 q_1.minute, .int .i64 q_1.from_, .int .i64 q_1.cut, .slice ad18 q_1.put_.length cap19]) rfl rfl rfl fun q21 K22 hK23 => (a1 rfl (on (sq (drG 6 mixed (by kernel_rfl) rfl (dt rfl (m1 rfl fin1) (dt rfl (nl rfl rfl fin1) (dt rfl (fb 5 U133 rfl rfl rfl rfl Z64 fin1) (dt rfl (ld G64 rfl rfl (((sS 2 rfl hc_d_0).drop 5).take 1) rfl fin1) (dt rfl (ldA G63 Z63 rfl rfl (sS 1 rfl hK23) rfl fin1) ?_)))))))))))
 refine dt rfl (fn rfl rfl rfl fin1) (DF.nil fun K24 hF => ?_)
 obtain ⟨r26, hx27, hr28⟩ := bd_some hr
 refine clS (v := .bool r26) C145 rfl rfl rfl rfl (fun w H hH le => by
   have hf25 : FnV M Tryz.prog H (.func (.func 146) [.agg [.int .i64 q_1.by_, .int .i64 q_1.minute, .int .i64 q_1.from_, .int .i64 q_1.cut, .slice ad18 q_1.put_.length cap19].toArray].toArray [].toArray) (SF1 (Vr RRequest) Value.bool (m146 q_1)) := ⟨146, [.agg [.int .i64 q_1.by_, .int .i64 q_1.minute, .int .i64 q_1.from_, .int .i64 q_1.cut, .slice ad18 q_1.put_.length cap19].toArray], [], rfl, C146, fun w_ K_ args_ v_ hK hw hs => by obtain ⟨u0_, x0_, r_, rfl, h0_, hx, rfl⟩ := hs; obtain ⟨_, rfl, h0_⟩ := h0_; exact w146 (H := K_) hw q_1 (RRequest.mono _ _ _ _ ((le.at 2 rfl).trans hK) hh_q_1) x0_ h0_  hx⟩
   exact w145 hH (hl11.mono (RRequest.mono) (le.at 2 rfl)) (f_1 := (m146 q_1)) hf25 hx27) ?_
 refine nt rfl rfl (a1 rfl (on (rt_ ?_)))
 cases hr28
 intro a w hS hA
 refine ret1 hA rfl rfl ?_
 exact ⟨rfl, hS.ext⟩

theorem w90 {M : Prop} {W : World} {H : Hp} (hH : H.le (hp W)) (hg : Gv M H) {q_d_0 : Addr} {cs_d_0 : List Value} (d_0 : decided) (hc_d_0 : CellsAt H q_d_0 cs_d_0) (h_d_0 : (Rdecided) H cs_d_0 d_0) {cs_q_1 : List Value} (q_1 : Request) (h_q_1 : (RRequest) H cs_q_1 q_1) {r : Int} (hr : m90 d_0 q_1 = some r) : Calls Tryz.prog 90 [.pointer (some q_d_0), .agg cs_q_1.toArray].toArray W (RetS M W (.int .i64 r)) := by
 have hh_d_0 := h_d_0
 obtain ⟨ad1, cap2, mp4, ad6, cap7, ad9, cap10, ad12, cap13, ad15, cap16, rfl, hl3, hm5, hl8, hl11, hl14, hl17⟩ := h_d_0
 have := hl3.len
 have := hl8.len
 have := hl11.len
 have := hl14.len
 have := hl17.len
 have hh_q_1 := h_q_1
 obtain ⟨ad18, cap19, rfl, hl20⟩ := h_q_1
 have := hl20.len
 unfold m90 at hr
 refine enterG (M := M) Tryz.func90 rfl Tryz.ntmps90 rfl hH ?_
 refine sq (rg (bI (cs := [.int .i64 q_1.by_, .int .i64 q_1.minute, .int .i64 q_1.from_, .int .i64 q_1.cut, .slice ad18 q_1.put_.length cap19]) rfl rfl rfl fun q21 K22 hK23 => (a1 rfl (on (sc (sq (rg (a1 rfl (on (sq (lb ?_)))))))))))
 refine sq (sq (rg (m1 rfl (fn rfl rfl rfl (bu (cs := [.func (.func 114) [.pointer (some q_d_0)].toArray [].toArray, .int .i64 2]) T4.B182 rfl rfl rfl (m1 rfl (fn rfl rfl rfl (bu (cs := [.func (.func 115) [.pointer (some q_d_0)].toArray [].toArray, .int .i64 1]) T4.B182 rfl rfl rfl (m1 rfl (fn rfl rfl rfl (bu (cs := [.func (.func 116) [.pointer (some q_d_0)].toArray [].toArray, .int .i64 5]) T4.B182 rfl rfl rfl ?_)))))))))))
 refine m1 rfl (fn rfl rfl rfl (bu (cs := [.func (.func 117) [.pointer (some q_d_0)].toArray [].toArray, .int .i64 11]) T4.B182 rfl rfl rfl (m1 rfl (fn rfl rfl rfl (bu (cs := [.func (.func 118) [.pointer (some q_d_0)].toArray [].toArray, .int .i64 9]) T4.B182 rfl rfl rfl (m1 rfl (fn rfl rfl rfl (bu (cs := [.func (.func 119) [.pointer (some q_d_0)].toArray [].toArray, .int .i64 6]) T4.B182 rfl rfl rfl (bS (cs := [.func (.func 114) [.pointer (some q_d_0)].toArray [].toArray, .int .i64 2, .func (.func 115) [.pointer (some q_d_0)].toArray [].toArray, .int .i64 1, .func (.func 116) [.pointer (some q_d_0)].toArray [].toArray, .int .i64 5, .func (.func 117) [.pointer (some q_d_0)].toArray [].toArray, .int .i64 11, .func (.func 118) [.pointer (some q_d_0)].toArray [].toArray, .int .i64 9, .func (.func 119) [.pointer (some q_d_0)].toArray [].toArray, .int .i64 6]) T4.E183 rfl rfl rfl rfl fun q24 K25 hq26 hK27 => (lnL U183 rfl rfl (m1 rfl ?_)))))))))))
 refine on ?_
 obtain ⟨t82, hx83, hr84⟩ := bd_some hr
 refine jn (fun a w => St M W H [K25, K22, H] [] w ∧ Has [] 41 a [(5, .int .i64 (t82 : Int))]) ?_ ?_
 ·refine bk (lR 7 (rd (sq (rg (ltI rfl rfl rfl (on (sq (cT rfl ((rfl : decide ((0 : Int) < (6 : Int)) = true)) (sk (sq (bk ?_)))))))))))
  refine sq (rg (iaP (j := 0) U183 Z182 rfl rfl rfl rfl (by decide) (ldA G182 Z182 rfl rfl ((sS 0 rfl (hK27.drop (0 * 2))).take 2) rfl (va (cs := [.func (.func 114) [.pointer (some q_d_0)].toArray [].toArray, .int .i64 2]) Tryz.zeroValue182 Z182 rfl rfl rfl rfl rfl rfl rfl rfl fun q94 K95 hK96 => (on (sq (rg (fb 0 U182 rfl rfl rfl rfl Z180 (ld G180 rfl rfl ((sS 0 rfl hK96).take 1) rfl (ldA G63 Z63 rfl rfl (sS 2 rfl hK23) rfl ?_))))))))))
  obtain ⟨r97, hx98, hr99⟩ := bd_some hx83
  refine clS C114 rfl rfl rfl rfl (fun w H hH le => w114 hH d_0 (hc_d_0.mono (le.at 3 rfl)) ⟨_, _, _, _, _, _, _, _, _, _, _, rfl, (hl3.mono (Flat.mono _) (le.at 3 rfl)), (hm5.mono (le.at 3 rfl)), (hl8.mono (Flat.mono _) (le.at 3 rfl)), (hl11.mono (RRequest.mono) (le.at 3 rfl)), (hl14.mono (Flat.mono _) (le.at 3 rfl)), (hl17.mono (Flat.mono _) (le.at 3 rfl))⟩ q_1 (RRequest.mono _ _ _ _ (le.at 3 rfl) hh_q_1) hx98) (nt rfl rfl (on ?_))
  refine cb rfl (fun hc103 => ?_) (fun hc103 => ?_)
  ·replace hc103 := nbt hc103
   have hr104 := if_f hc103 hr99
   refine sq (rg (fb 1 U182 rfl rfl rfl rfl Z31 (ld G31 rfl rfl ((sS 0 rfl hK96).drop 1) rfl (a1 rfl (on (xt rfl ?_))))))
   cases hr104
   intro a w hS hA
   exact ⟨hS.selH [1, 2, 3] rfl, hA.cut ⟨rfl, tv⟩⟩
  ·replace hc103 := nbf hc103
   have hr105 := if_p hc103 hr99
   refine sk (rg (adI rfl rfl rfl (by omega) (m1 rfl (on (rd (sq (rg (ltI rfl rfl rfl (on (sq (cT rfl ((rfl : decide ((1 : Int) < (6 : Int)) = true)) ?_)))))))))))
   refine sk (sq (bk (sq (rg (iaP (j := 1) U183 Z182 rfl rfl rfl rfl (by decide) (ldA G182 Z182 rfl rfl ((sS 1 rfl (hK27.drop (1 * 2))).take 2) rfl (va (cs := [.func (.func 115) [.pointer (some q_d_0)].toArray [].toArray, .int .i64 1]) Tryz.zeroValue182 Z182 rfl rfl rfl rfl rfl rfl rfl rfl fun q115 K116 hK117 => (on (sq (rg (fb 0 U182 rfl rfl rfl rfl Z180 ?_)))))))))))
   refine ld G180 rfl rfl ((sS 0 rfl hK117).take 1) rfl (ldA G63 Z63 rfl rfl (sS 3 rfl hK23) rfl ?_)
   obtain ⟨r118, hx119, hr120⟩ := bd_some hr105
   refine clS C115 rfl rfl rfl rfl (fun w H hH le => w115 hH d_0 (hc_d_0.mono (le.at 4 rfl)) ⟨_, _, _, _, _, _, _, _, _, _, _, rfl, (hl3.mono (Flat.mono _) (le.at 4 rfl)), (hm5.mono (le.at 4 rfl)), (hl8.mono (Flat.mono _) (le.at 4 rfl)), (hl11.mono (RRequest.mono) (le.at 4 rfl)), (hl14.mono (Flat.mono _) (le.at 4 rfl)), (hl17.mono (Flat.mono _) (le.at 4 rfl))⟩ q_1 (RRequest.mono _ _ _ _ (le.at 4 rfl) hh_q_1) hx119) (nt rfl rfl (on ?_))
   refine cb rfl (fun hc124 => ?_) (fun hc124 => ?_)
   ·replace hc124 := nbt hc124
    have hr125 := if_f hc124 hr120
    refine sq (rg (fb 1 U182 rfl rfl rfl rfl Z31 (ld G31 rfl rfl ((sS 0 rfl hK117).drop 1) rfl (a1 rfl (on (xt rfl ?_))))))
    cases hr125
    intro a w hS hA
    exact ⟨hS.selH [2, 3, 4] rfl, hA.cut ⟨rfl, tv⟩⟩
   ·replace hc124 := nbf hc124
    have hr126 := if_p hc124 hr120
    refine sk (rg (adI rfl rfl rfl (by omega) (m1 rfl (on (rd (sq (rg (ltI rfl rfl rfl (on (sq (cT rfl ((rfl : decide ((2 : Int) < (6 : Int)) = true)) ?_)))))))))))
    refine sk (sq (bk (sq (rg (iaP (j := 2) U183 Z182 rfl rfl rfl rfl (by decide) (ldA G182 Z182 rfl rfl ((sS 2 rfl (hK27.drop (2 * 2))).take 2) rfl (va (cs := [.func (.func 116) [.pointer (some q_d_0)].toArray [].toArray, .int .i64 5]) Tryz.zeroValue182 Z182 rfl rfl rfl rfl rfl rfl rfl rfl fun q136 K137 hK138 => (on (sq (rg (fb 0 U182 rfl rfl rfl rfl Z180 ?_)))))))))))
    refine ld G180 rfl rfl ((sS 0 rfl hK138).take 1) rfl (ldA G63 Z63 rfl rfl (sS 4 rfl hK23) rfl ?_)
    obtain ⟨r139, hx140, hr141⟩ := bd_some hr126
    refine clS C116 rfl rfl rfl rfl (fun w H hH le => w116 hH d_0 (hc_d_0.mono (le.at 5 rfl)) ⟨_, _, _, _, _, _, _, _, _, _, _, rfl, (hl3.mono (Flat.mono _) (le.at 5 rfl)), (hm5.mono (le.at 5 rfl)), (hl8.mono (Flat.mono _) (le.at 5 rfl)), (hl11.mono (RRequest.mono) (le.at 5 rfl)), (hl14.mono (Flat.mono _) (le.at 5 rfl)), (hl17.mono (Flat.mono _) (le.at 5 rfl))⟩ q_1 (RRequest.mono _ _ _ _ (le.at 5 rfl) hh_q_1) hx140) (nt rfl rfl (on ?_))
    refine cb rfl (fun hc145 => ?_) (fun hc145 => ?_)
    ·replace hc145 := nbt hc145
     have hr146 := if_f hc145 hr141
     refine sq (rg (fb 1 U182 rfl rfl rfl rfl Z31 (ld G31 rfl rfl ((sS 0 rfl hK138).drop 1) rfl (a1 rfl (on (xt rfl ?_))))))
     cases hr146
     intro a w hS hA
     exact ⟨hS.selH [3, 4, 5] rfl, hA.cut ⟨rfl, tv⟩⟩
    ·replace hc145 := nbf hc145
     have hr147 := if_p hc145 hr141
     refine sk (rg (adI rfl rfl rfl (by omega) (m1 rfl (on (rd (sq (rg (ltI rfl rfl rfl (on (sq (cT rfl ((rfl : decide ((3 : Int) < (6 : Int)) = true)) ?_)))))))))))
     refine sk (sq (bk (sq (rg (iaP (j := 3) U183 Z182 rfl rfl rfl rfl (by decide) (ldA G182 Z182 rfl rfl ((sS 3 rfl (hK27.drop (3 * 2))).take 2) rfl (va (cs := [.func (.func 117) [.pointer (some q_d_0)].toArray [].toArray, .int .i64 11]) Tryz.zeroValue182 Z182 rfl rfl rfl rfl rfl rfl rfl rfl fun q157 K158 hK159 => (on (sq (rg (fb 0 U182 rfl rfl rfl rfl Z180 ?_)))))))))))
     refine ld G180 rfl rfl ((sS 0 rfl hK159).take 1) rfl (ldA G63 Z63 rfl rfl (sS 5 rfl hK23) rfl ?_)
     obtain ⟨r160, hx161, hr162⟩ := bd_some hr147
     refine clS C117 rfl rfl rfl rfl (fun w H hH le => w117 hH d_0 (hc_d_0.mono (le.at 6 rfl)) ⟨_, _, _, _, _, _, _, _, _, _, _, rfl, (hl3.mono (Flat.mono _) (le.at 6 rfl)), (hm5.mono (le.at 6 rfl)), (hl8.mono (Flat.mono _) (le.at 6 rfl)), (hl11.mono (RRequest.mono) (le.at 6 rfl)), (hl14.mono (Flat.mono _) (le.at 6 rfl)), (hl17.mono (Flat.mono _) (le.at 6 rfl))⟩ q_1 (RRequest.mono _ _ _ _ (le.at 6 rfl) hh_q_1) hx161) (nt rfl rfl (on ?_))
     refine cb rfl (fun hc166 => ?_) (fun hc166 => ?_)
     ·replace hc166 := nbt hc166
      have hr167 := if_f hc166 hr162
      refine sq (rg (fb 1 U182 rfl rfl rfl rfl Z31 (ld G31 rfl rfl ((sS 0 rfl hK159).drop 1) rfl (a1 rfl (on (xt rfl ?_))))))
      cases hr167
      intro a w hS hA
      exact ⟨hS.selH [4, 5, 6] rfl, hA.cut ⟨rfl, tv⟩⟩
     ·replace hc166 := nbf hc166
      have hr168 := if_p hc166 hr162
      refine sk (rg (adI rfl rfl rfl (by omega) (m1 rfl (on (rd (sq (rg (ltI rfl rfl rfl (on (sq (cT rfl ((rfl : decide ((4 : Int) < (6 : Int)) = true)) ?_)))))))))))
      refine sk (sq (bk (sq (rg (iaP (j := 4) U183 Z182 rfl rfl rfl rfl (by decide) (ldA G182 Z182 rfl rfl ((sS 4 rfl (hK27.drop (4 * 2))).take 2) rfl (va (cs := [.func (.func 118) [.pointer (some q_d_0)].toArray [].toArray, .int .i64 9]) Tryz.zeroValue182 Z182 rfl rfl rfl rfl rfl rfl rfl rfl fun q178 K179 hK180 => (on (sq (rg (fb 0 U182 rfl rfl rfl rfl Z180 ?_)))))))))))
      refine ld G180 rfl rfl ((sS 0 rfl hK180).take 1) rfl (ldA G63 Z63 rfl rfl (sS 6 rfl hK23) rfl ?_)
      obtain ⟨r181, hx182, hr183⟩ := bd_some hr168
      refine clS C118 rfl rfl rfl rfl (fun w H hH le => w118 hH (hg.mono (le.at 7 rfl)) d_0 (hc_d_0.mono (le.at 7 rfl)) ⟨_, _, _, _, _, _, _, _, _, _, _, rfl, (hl3.mono (Flat.mono _) (le.at 7 rfl)), (hm5.mono (le.at 7 rfl)), (hl8.mono (Flat.mono _) (le.at 7 rfl)), (hl11.mono (RRequest.mono) (le.at 7 rfl)), (hl14.mono (Flat.mono _) (le.at 7 rfl)), (hl17.mono (Flat.mono _) (le.at 7 rfl))⟩ q_1 (RRequest.mono _ _ _ _ (le.at 7 rfl) hh_q_1) hx182) (nt rfl rfl (on ?_))
      refine cb rfl (fun hc187 => ?_) (fun hc187 => ?_)
      ·replace hc187 := nbt hc187
       have hr188 := if_f hc187 hr183
       refine sq (rg (fb 1 U182 rfl rfl rfl rfl Z31 (ld G31 rfl rfl ((sS 0 rfl hK180).drop 1) rfl (a1 rfl (on (xt rfl ?_))))))
       cases hr188
       intro a w hS hA
       exact ⟨hS.selH [5, 6, 7] rfl, hA.cut ⟨rfl, tv⟩⟩
      ·replace hc187 := nbf hc187
       have hr189 := if_p hc187 hr183
       refine sk (rg (adI rfl rfl rfl (by omega) (m1 rfl (on (rd (sq (rg (ltI rfl rfl rfl (on (sq (cT rfl ((rfl : decide ((5 : Int) < (6 : Int)) = true)) ?_)))))))))))
       refine sk (sq (bk (sq (rg (iaP (j := 5) U183 Z182 rfl rfl rfl rfl (by decide) (ldA G182 Z182 rfl rfl (sS 5 rfl (hK27.drop (5 * 2))) rfl (va (cs := [.func (.func 119) [.pointer (some q_d_0)].toArray [].toArray, .int .i64 6]) Tryz.zeroValue182 Z182 rfl rfl rfl rfl rfl rfl rfl rfl fun q199 K200 hK201 => (on (sq (rg (fb 0 U182 rfl rfl rfl rfl Z180 ?_)))))))))))
       refine ld G180 rfl rfl ((sS 0 rfl hK201).take 1) rfl (ldA G63 Z63 rfl rfl (sS 7 rfl hK23) rfl ?_)
       obtain ⟨r202, hx203, hr204⟩ := bd_some hr189
       refine clS C119 rfl rfl rfl rfl (fun w H hH le => w119 hH d_0 (hc_d_0.mono (le.at 8 rfl)) ⟨_, _, _, _, _, _, _, _, _, _, _, rfl, (hl3.mono (Flat.mono _) (le.at 8 rfl)), (hm5.mono (le.at 8 rfl)), (hl8.mono (Flat.mono _) (le.at 8 rfl)), (hl11.mono (RRequest.mono) (le.at 8 rfl)), (hl14.mono (Flat.mono _) (le.at 8 rfl)), (hl17.mono (Flat.mono _) (le.at 8 rfl))⟩ q_1 (RRequest.mono _ _ _ _ (le.at 8 rfl) hh_q_1) hx203) (nt rfl rfl (on ?_))
       refine cb rfl (fun hc208 => ?_) (fun hc208 => ?_)
       ·replace hc208 := nbt hc208
        have hr209 := if_f hc208 hr204
        refine sq (rg (fb 1 U182 rfl rfl rfl rfl Z31 (ld G31 rfl rfl ((sS 0 rfl hK201).drop 1) rfl (a1 rfl (on (xt rfl ?_))))))
        cases hr209
        intro a w hS hA
        exact ⟨hS.selH [6, 7, 8] rfl, hA.cut ⟨rfl, tv⟩⟩
       ·replace hc208 := nbf hc208
        have hr210 := if_p hc208 hr204
        refine sk (rg (adI rfl rfl rfl (by omega) (m1 rfl (on (rd (sq (rg (ltI rfl rfl rfl (on (sq (cF rfl ((rfl : decide ((6 : Int) < (6 : Int)) = false)) ?_)))))))))))
        refine xt rfl ?_
        cases hr210
        intro a w hS hA
        exact ⟨hS.selH [6, 7, 8] rfl, hA.cut ⟨rfl, tv⟩⟩
 ·rintro a w ⟨hS, hA⟩
  refine TG.ap ?_ hS hA
  refine sq (rg (m1 rfl (a1 rfl (on (rt_ ?_)))))
  cases hr84
  intro a w hS hA
  refine ret1 hA rfl rfl ?_
  exact ⟨rfl, hS.ext⟩

end T4
