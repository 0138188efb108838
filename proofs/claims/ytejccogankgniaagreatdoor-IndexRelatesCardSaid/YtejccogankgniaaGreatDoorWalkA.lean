/-
 Walks of functions of an index: each call comes to what the model says. Printed by a program of ours.
-/
import Derived.Test.YtejccogankgniaaGreatDoorMade
set_option linter.all false
set_option maxHeartbeats 4000000
namespace T11
open Go Go.Proofs Pk
theorem w47 {M : Prop} {W : World} {H : Hp} (hH : H.le (hp W))  {r : List (List Heading)} (hr : m47 = some r) : Calls Tryz.prog 47 [].toArray W (RetK M H W (fun v K => ∃ (ad0 : Option Addr) (cap0 : Nat), v = .slice ad0 r.length cap0 ∧ Sl (RSl RHeading 4) 1 K ad0 cap0 r)) := by
 unfold m47 at hr
 refine enterG (M := M) Tryz.func47 rfl Tryz.ntmps47 rfl hH ?_
 refine sq (rg (a1 rfl (on (sq (rg (bS (cs := [.string (bs [84, 114, 97, 100, 101])]) T11.E50 J J J J fun q1 K2 hq3 hK4 => ?_))))))
 have hl5 : Sl (Flat encS) 1 K2 (some q1) 1 ([[84, 114, 97, 100, 101]] : List Bytes) := Sl.litR (css := [[.string (bs [84, 114, 97, 100, 101])]]) (l := ([[84, 114, 97, 100, 101]] : List Bytes)) ⟨⟨rfl, rfl, rfl⟩, tv⟩ hq3 hK4 rfl
 have := hl5.len
 refine bu (cs := [.int .i64 3, .int .i64 12, .int .i64 14]) T11.B81 J J J (bu (cs := [.int .i64 4, .int .i64 1, .int .i64 1]) T11.B81 J J J (bS (cs := [.int .i64 3, .int .i64 12, .int .i64 14, .int .i64 4, .int .i64 1, .int .i64 1]) T11.E62 J J J J fun q6 K7 hq8 hK9 => ?_))
 have hl10 : Sl (Flat encPlace) 3 K7 (some q6) 2 ([(⟨3, 12, 14⟩ : Place), (⟨4, 1, 1⟩ : Place)] : List Place) := Sl.litR (css := [[.int .i64 3, .int .i64 12, .int .i64 14], [.int .i64 4, .int .i64 1, .int .i64 1]]) (l := ([(⟨3, 12, 14⟩ : Place), (⟨4, 1, 1⟩ : Place)] : List Place)) ⟨⟨rfl, rfl, rfl⟩, ⟨rfl, rfl, rfl⟩, tv⟩ hq8 hK9 rfl
 have := hl10.len
 refine bu (cs := [.string (bs [67, 111, 114, 110, 32, 76, 97, 119, 115]), .slice none 0 0, .slice (some q1) 1 1, .slice (some q6) 2 2]) T11.B64 J J J (bS (cs := [.string (bs [65, 32, 76, 101, 101])]) T11.E50 J J J J fun q11 K12 hq13 hK14 => ?_)
 have hl15 : Sl (Flat encS) 1 K12 (some q11) 1 ([[65, 32, 76, 101, 101]] : List Bytes) := Sl.litR (css := [[.string (bs [65, 32, 76, 101, 101])]]) (l := ([[65, 32, 76, 101, 101]] : List Bytes)) ⟨⟨rfl, rfl, rfl⟩, tv⟩ hq13 hK14 rfl
 have := hl15.len
 refine bu (cs := [.int .i64 3, .int .i64 7, .int .i64 7]) T11.B81 J J J (bS (cs := [.int .i64 3, .int .i64 7, .int .i64 7]) T11.E62 J J J J fun q16 K17 hq18 hK19 => ?_)
 have hl20 : Sl (Flat encPlace) 3 K17 (some q16) 1 ([(⟨3, 7, 7⟩ : Place)] : List Place) := Sl.litR (css := [[.int .i64 3, .int .i64 7, .int .i64 7]]) (l := ([(⟨3, 7, 7⟩ : Place)] : List Place)) ⟨⟨rfl, rfl, rfl⟩, tv⟩ hq18 hK19 rfl
 have := hl20.len
 refine bu (cs := [.string (bs [76, 101, 101, 32, 65, 110, 110]), .slice (some q11) 1 1, .slice none 0 0, .slice (some q16) 1 1]) T11.B64 J J J (bu (cs := [.int .i64 3, .int .i64 13, .int .i64 13]) T11.B81 J J J (bS (cs := [.int .i64 3, .int .i64 13, .int .i64 13]) T11.E62 J J J J fun q21 K22 hq23 hK24 => ?_))
 have hl25 : Sl (Flat encPlace) 3 K22 (some q21) 1 ([(⟨3, 13, 13⟩ : Place)] : List Place) := Sl.litR (css := [[.int .i64 3, .int .i64 13, .int .i64 13]]) (l := ([(⟨3, 13, 13⟩ : Place)] : List Place)) ⟨⟨rfl, rfl, rfl⟩, tv⟩ hq23 hK24 rfl
 have := hl25.len
 refine bu (cs := [.string (bs [84, 114, 97, 100, 101]), .slice none 0 0, .slice none 0 0, .slice (some q21) 1 1]) T11.B64 J J J (bS (cs := [.string (bs [67, 111, 114, 110, 32, 76, 97, 119, 115]), .slice none 0 0, .slice (some q1) 1 1, .slice (some q6) 2 2, .string (bs [76, 101, 101, 32, 65, 110, 110]), .slice (some q11) 1 1, .slice none 0 0, .slice (some q16) 1 1, .string (bs [84, 114, 97, 100, 101]), .slice none 0 0, .slice none 0 0, .slice (some q21) 1 1]) T11.E26 J J J J fun q26 K27 hq28 hK29 => ?_)
 refine TG.pack (fun K => Sl (RHeading) 4 K (some q26) 3 ([(⟨[67, 111, 114, 110, 32, 76, 97, 119, 115], ([] : List Bytes), ([[84, 114, 97, 100, 101]] : List Bytes), ([(⟨3, 12, 14⟩ : Place), (⟨4, 1, 1⟩ : Place)] : List Place)⟩ : Heading), (⟨[76, 101, 101, 32, 65, 110, 110], ([[65, 32, 76, 101, 101]] : List Bytes), ([] : List Bytes), ([(⟨3, 7, 7⟩ : Place)] : List Place)⟩ : Heading), (⟨[84, 114, 97, 100, 101], ([] : List Bytes), ([] : List Bytes), ([(⟨3, 13, 13⟩ : Place)] : List Place)⟩ : Heading)] : List Heading)) (fun H le => Sl.litR (css := [[.string (bs [67, 111, 114, 110, 32, 76, 97, 119, 115]), .slice none 0 0, .slice (some q1) 1 1, .slice (some q6) 2 2], [.string (bs [76, 101, 101, 32, 65, 110, 110]), .slice (some q11) 1 1, .slice none 0 0, .slice (some q16) 1 1], [.string (bs [84, 114, 97, 100, 101]), .slice none 0 0, .slice none 0 0, .slice (some q21) 1 1]]) (l := ([(⟨[67, 111, 114, 110, 32, 76, 97, 119, 115], ([] : List Bytes), ([[84, 114, 97, 100, 101]] : List Bytes), ([(⟨3, 12, 14⟩ : Place), (⟨4, 1, 1⟩ : Place)] : List Place)⟩ : Heading), (⟨[76, 101, 101, 32, 65, 110, 110], ([[65, 32, 76, 101, 101]] : List Bytes), ([] : List Bytes), ([(⟨3, 7, 7⟩ : Place)] : List Place)⟩ : Heading), (⟨[84, 114, 97, 100, 101], ([] : List Bytes), ([] : List Bytes), ([(⟨3, 13, 13⟩ : Place)] : List Place)⟩ : Heading)] : List Heading)) ⟨⟨rfl, rfl, ⟨_, _, _, _, _, _, rfl, (Sl.nil _ _ _ _ _ (by decide)), (hl5.mono (Flat.mono _) (le.at 5 rfl)), (hl10.mono (Flat.mono _) (le.at 4 rfl))⟩⟩, ⟨rfl, rfl, ⟨_, _, _, _, _, _, rfl, (hl15.mono (Flat.mono _) (le.at 3 rfl)), (Sl.nil _ _ _ _ _ (by decide)), (hl20.mono (Flat.mono _) (le.at 2 rfl))⟩⟩, ⟨rfl, rfl, ⟨_, _, _, _, _, _, rfl, (Sl.nil _ _ _ _ _ (by decide)), (Sl.nil _ _ _ _ _ (by decide)), (hl25.mono (Flat.mono _) (le.at 1 rfl))⟩⟩, tv⟩ hq28 (hK29.mono (le.at 0 rfl)) rfl) fun K31 hl30 => ?_
 have := hl30.len
 refine bS (cs := [.string (bs [76, 97, 100, 121, 32, 76, 101, 101])]) T11.E50 J J J J fun q32 K33 hq34 hK35 => ?_
 have hl36 : Sl (Flat encS) 1 K33 (some q32) 1 ([[76, 97, 100, 121, 32, 76, 101, 101]] : List Bytes) := Sl.litR (css := [[.string (bs [76, 97, 100, 121, 32, 76, 101, 101])]]) (l := ([[76, 97, 100, 121, 32, 76, 101, 101]] : List Bytes)) ⟨⟨rfl, rfl, rfl⟩, tv⟩ hq34 hK35 rfl
 have := hl36.len
 refine bu (cs := [.int .i64 9, .int .i64 1, .int .i64 2]) T11.B81 J J J (bS (cs := [.int .i64 9, .int .i64 1, .int .i64 2]) T11.E62 J J J J fun q37 K38 hq39 hK40 => ?_)
 have hl41 : Sl (Flat encPlace) 3 K38 (some q37) 1 ([(⟨9, 1, 2⟩ : Place)] : List Place) := Sl.litR (css := [[.int .i64 9, .int .i64 1, .int .i64 2]]) (l := ([(⟨9, 1, 2⟩ : Place)] : List Place)) ⟨⟨rfl, rfl, rfl⟩, tv⟩ hq39 hK40 rfl
 have := hl41.len
 refine bu (cs := [.string (bs [65, 32, 76, 101, 101]), .slice (some q32) 1 1, .slice none 0 0, .slice (some q37) 1 1]) T11.B64 J J J (bS (cs := [.string (bs [67, 111, 114, 110, 32, 76, 97, 119, 115])]) T11.E50 J J J J fun q42 K43 hq44 hK45 => ?_)
 have hl46 : Sl (Flat encS) 1 K43 (some q42) 1 ([[67, 111, 114, 110, 32, 76, 97, 119, 115]] : List Bytes) := Sl.litR (css := [[.string (bs [67, 111, 114, 110, 32, 76, 97, 119, 115])]]) (l := ([[67, 111, 114, 110, 32, 76, 97, 119, 115]] : List Bytes)) ⟨⟨rfl, rfl, rfl⟩, tv⟩ hq44 hK45 rfl
 have := hl46.len
 refine bu (cs := [.int .i64 4, .int .i64 2, .int .i64 2]) T11.B81 J J J (bS (cs := [.int .i64 4, .int .i64 2, .int .i64 2]) T11.E62 J J J J fun q47 K48 hq49 hK50 => ?_)
 have hl51 : Sl (Flat encPlace) 3 K48 (some q47) 1 ([(⟨4, 2, 2⟩ : Place)] : List Place) := Sl.litR (css := [[.int .i64 4, .int .i64 2, .int .i64 2]]) (l := ([(⟨4, 2, 2⟩ : Place)] : List Place)) ⟨⟨rfl, rfl, rfl⟩, tv⟩ hq49 hK50 rfl
 have := hl51.len
 refine bu (cs := [.string (bs [67, 111, 114, 110, 32, 108, 97, 119, 115]), .slice (some q42) 1 1, .slice none 0 0, .slice (some q47) 1 1]) T11.B64 J J J (bS (cs := [.string (bs [65, 32, 76, 101, 101]), .slice (some q32) 1 1, .slice none 0 0, .slice (some q37) 1 1, .string (bs [67, 111, 114, 110, 32, 108, 97, 119, 115]), .slice (some q42) 1 1, .slice none 0 0, .slice (some q47) 1 1]) T11.E26 J J J J fun q52 K53 hq54 hK55 => (TG.pack (fun K => Sl (RHeading) 4 K (some q52) 2 ([(⟨[65, 32, 76, 101, 101], ([[76, 97, 100, 121, 32, 76, 101, 101]] : List Bytes), ([] : List Bytes), ([(⟨9, 1, 2⟩ : Place)] : List Place)⟩ : Heading), (⟨[67, 111, 114, 110, 32, 108, 97, 119, 115], ([[67, 111, 114, 110, 32, 76, 97, 119, 115]] : List Bytes), ([] : List Bytes), ([(⟨4, 2, 2⟩ : Place)] : List Place)⟩ : Heading)] : List Heading)) (fun H le => Sl.litR (css := [[.string (bs [65, 32, 76, 101, 101]), .slice (some q32) 1 1, .slice none 0 0, .slice (some q37) 1 1], [.string (bs [67, 111, 114, 110, 32, 108, 97, 119, 115]), .slice (some q42) 1 1, .slice none 0 0, .slice (some q47) 1 1]]) (l := ([(⟨[65, 32, 76, 101, 101], ([[76, 97, 100, 121, 32, 76, 101, 101]] : List Bytes), ([] : List Bytes), ([(⟨9, 1, 2⟩ : Place)] : List Place)⟩ : Heading), (⟨[67, 111, 114, 110, 32, 108, 97, 119, 115], ([[67, 111, 114, 110, 32, 76, 97, 119, 115]] : List Bytes), ([] : List Bytes), ([(⟨4, 2, 2⟩ : Place)] : List Place)⟩ : Heading)] : List Heading)) ⟨⟨rfl, rfl, ⟨_, _, _, _, _, _, rfl, (hl36.mono (Flat.mono _) (le.at 4 rfl)), (Sl.nil _ _ _ _ _ (by decide)), (hl41.mono (Flat.mono _) (le.at 3 rfl))⟩⟩, ⟨rfl, rfl, ⟨_, _, _, _, _, _, rfl, (hl46.mono (Flat.mono _) (le.at 2 rfl)), (Sl.nil _ _ _ _ _ (by decide)), (hl51.mono (Flat.mono _) (le.at 1 rfl))⟩⟩, tv⟩ hq54 (hK55.mono (le.at 0 rfl)) rfl) fun K57 hl56 => ?_))
 have := hl56.len
 refine bS (cs := [.slice (some q26) 3 3, .slice (some q52) 2 2]) T11.E30 J J J J fun q58 K59 hq60 hK61 => ?_
 refine TG.pack (fun K => Sl (RSl RHeading 4) 1 K (some q58) 2 ([([(⟨[67, 111, 114, 110, 32, 76, 97, 119, 115], ([] : List Bytes), ([[84, 114, 97, 100, 101]] : List Bytes), ([(⟨3, 12, 14⟩ : Place), (⟨4, 1, 1⟩ : Place)] : List Place)⟩ : Heading), (⟨[76, 101, 101, 32, 65, 110, 110], ([[65, 32, 76, 101, 101]] : List Bytes), ([] : List Bytes), ([(⟨3, 7, 7⟩ : Place)] : List Place)⟩ : Heading), (⟨[84, 114, 97, 100, 101], ([] : List Bytes), ([] : List Bytes), ([(⟨3, 13, 13⟩ : Place)] : List Place)⟩ : Heading)] : List Heading), ([(⟨[65, 32, 76, 101, 101], ([[76, 97, 100, 121, 32, 76, 101, 101]] : List Bytes), ([] : List Bytes), ([(⟨9, 1, 2⟩ : Place)] : List Place)⟩ : Heading), (⟨[67, 111, 114, 110, 32, 108, 97, 119, 115], ([[67, 111, 114, 110, 32, 76, 97, 119, 115]] : List Bytes), ([] : List Bytes), ([(⟨4, 2, 2⟩ : Place)] : List Place)⟩ : Heading)] : List Heading)] : List (List Heading))) (fun H le => Sl.litR (css := [[.slice (some q26) 3 3], [.slice (some q52) 2 2]]) (l := ([([(⟨[67, 111, 114, 110, 32, 76, 97, 119, 115], ([] : List Bytes), ([[84, 114, 97, 100, 101]] : List Bytes), ([(⟨3, 12, 14⟩ : Place), (⟨4, 1, 1⟩ : Place)] : List Place)⟩ : Heading), (⟨[76, 101, 101, 32, 65, 110, 110], ([[65, 32, 76, 101, 101]] : List Bytes), ([] : List Bytes), ([(⟨3, 7, 7⟩ : Place)] : List Place)⟩ : Heading), (⟨[84, 114, 97, 100, 101], ([] : List Bytes), ([] : List Bytes), ([(⟨3, 13, 13⟩ : Place)] : List Place)⟩ : Heading)] : List Heading), ([(⟨[65, 32, 76, 101, 101], ([[76, 97, 100, 121, 32, 76, 101, 101]] : List Bytes), ([] : List Bytes), ([(⟨9, 1, 2⟩ : Place)] : List Place)⟩ : Heading), (⟨[67, 111, 114, 110, 32, 108, 97, 119, 115], ([[67, 111, 114, 110, 32, 76, 97, 119, 115]] : List Bytes), ([] : List Bytes), ([(⟨4, 2, 2⟩ : Place)] : List Place)⟩ : Heading)] : List Heading)] : List (List Heading))) ⟨⟨rfl, rfl, ⟨_, _, rfl, (hl30.mono (RHeading.mono) (le.at 7 rfl))⟩⟩, ⟨rfl, rfl, ⟨_, _, rfl, (hl56.mono (RHeading.mono) (le.at 1 rfl))⟩⟩, tv⟩ hq60 (hK61.mono (le.at 0 rfl)) rfl) fun K63 hl62 => ?_
 have := hl62.len
 refine a1 rfl (on (rt_ ?_))
 obtain rfl := sj hr
 intro a w hS hA
 refine ret1 hA J J ?_
 exact ⟨⟨_, _, rfl, (hl62.mono (RSl.mono (RHeading.mono)) (hS.grow 0 rfl))⟩, hS.ext⟩

theorem w115 {M : Prop} {W : World} {H : Hp} (hH : H.le (hp W)) {cs_x_0 : List Value} (x_0 : Heading) (h_x_0 : (RHeading) H cs_x_0 x_0) {q_f0_ : Addr} {fv_f0_ : Value} {f0_ : Heading → Option Bool} (hc_f0_ : CellsAt H q_f0_ [fv_f0_]) (h_f0_ : FnV M Tryz.prog H fv_f0_ (SF1 (Vr RHeading) Value.bool f0_)) {r : Bool} (hr : m115 x_0 f0_ = some r) : Calls Tryz.prog 115 [.agg cs_x_0.toArray, .pointer (some q_f0_)].toArray W (RetS M W (.bool r)) := by
 have hh_x_0 := h_x_0
 obtain ⟨ad1, cap2, ad4, cap5, ad7, cap8, rfl, hl3, hl6, hl9⟩ := h_x_0
 have := hl3.len
 have := hl6.len
 have := hl9.len
 have hh_f0_ := h_f0_
 obtain ⟨f_f0_, fi_f0_, ca_f0_, rfl, _, _⟩ := h_f0_
 unfold m115 at hr
 refine enterG (M := M) Tryz.func115 rfl Tryz.ntmps115 rfl hH ?_
 refine sq (rg (bI (cs := [.string (bs x_0.name), .slice ad1 x_0.variants.length cap2, .slice ad4 x_0.also.length cap5, .slice ad7 x_0.places.length cap8]) J J J fun q10 K11 hK12 => (a1 rfl (on (sq (rg (ld G128 J J (sS 1 rfl hc_f0_) rfl (ldA G64 Z64 J J (sS 0 rfl hK12) rfl ?_))))))))
 obtain ⟨r13, hx14, hr15⟩ := bd_some hr
 refine clV (v := .bool r13) hh_f0_ 1 J J J J (fun H le => ⟨_, x_0, r13, rfl, ⟨_, rfl, (RHeading.mono _ _ _ _ (le.at 1 rfl) hh_x_0)⟩, hx14, rfl⟩) (nt J J (a1 rfl (on (rt_ ?_))))
 cases hr15
 intro a w hS hA
 refine ret1 hA J J ?_
 exact ⟨rfl, hS.ext⟩

theorem w149 {M : Prop} {W : World} {H : Hp} (hH : H.le (hp W)) {ad_s_0 : Option Addr} {cap_s_0 : Nat} {s_0 : List Heading} (h_s_0 : Sl (RHeading) 4 H ad_s_0 cap_s_0 s_0) {fv_f_1 : Value} {f_1 : Heading → Option Bool} (h_f_1 : FnV M Tryz.prog H fv_f_1 (SF1 (Vr RHeading) Value.bool f_1)) {r : Int} (hr : m149 s_0 f_1 = some r) : Calls Tryz.prog 149 [.slice ad_s_0 s_0.length cap_s_0, fv_f_1].toArray W (RetS M W (.int .i64 r)) := by
 have := h_s_0.len
 have hh_f_1 := h_f_1
 obtain ⟨f_f_1, fi_f_1, ca_f_1, rfl, _, _⟩ := h_f_1
 unfold m149 at hr
 refine enterG (M := M) Tryz.func149 rfl Tryz.ntmps149 rfl hH ?_
 refine sq (rg (a1 rfl (on (sq (sq (rg (m1 rfl (lnL U26 J J (m1 rfl (on ?_))))))))))
 obtain ⟨e29, hl30, hr31⟩ := bd_some hr
 refine jn (fun a w => ∃ t32, e29 = .inl t32 ∧ St M W H [H] [] w ∧ Has [] 19 a []) ?_ ?_
 ·refine bk ?_
  refine lp hl30 (fun s33 a w => St M W H [H] [] w ∧ Has [] 19 a [(0, .slice ad_s_0 s_0.length cap_s_0), (1, .func (.func f_f_1) fi_f_1.toArray ca_f_1.toArray), (7, .int .i64 (s_0.length : Int)), (8, .int .i64 (s33 : Int))]) ?_ ?_
  ·exact cu ⟨rfl, rfl, rfl, rfl, tv⟩
  ·rintro j s33 y36 hr34 hz35 a w ⟨hS, hA⟩
   refine TG.ap ?_ hS hA
   unfold m149_1 at hr34
   refine sq (rg (ltI J J J (on (sq ?_))))
   refine ci rfl (fun hc40 => ?_) (fun hc40 => ?_)
   ·have hr41 := if_p hc40 hr34
    refine sk (sq (bk (sq (rg (m1 rfl (a1 rfl (on (sq (rg (m1 rfl (m1 rfl ?_)))))))))))
    refine m1 rfl ?_
    obtain ⟨x66, hx67, hr68⟩ := bd_some hr41
    obtain ⟨p69, rfl⟩ := h_s_0.adr hx67
    obtain ⟨cs70, hcs71, hq72, hr73⟩ := h_s_0.at hx67
    have hr74 := hr73
    obtain ⟨ad75, cap76, ad78, cap79, ad81, cap82, rfl, hl77, hl80, hl83⟩ := hr73
    have := hl77.len
    have := hl80.len
    have := hl83.len
    refine iaP U26 Z64 J J J J (lt_of hx67) (ldA G64 Z64 J J (sS 0 rfl hq72) rfl ?_)
    obtain ⟨r84, hx85, hr86⟩ := bd_some hr68
    refine clV (v := .bool r84) hh_f_1 0 J J J J (fun H le => ⟨_, x66, r84, rfl, ⟨_, rfl, (RHeading.mono _ _ _ _ (le.at 0 rfl) hr74)⟩, hx85, rfl⟩) (on ?_)
    refine cb rfl (fun hc90 => ?_) (fun hc90 => ?_)
    ·have hr91 := if_p hc90 hr86
     refine sq (rg (m1 rfl (a1 rfl (on (rt_ ?_)))))
     cases hr91
     obtain rfl := Fin.out hz35
     cases hr31
     intro a w hS hA
     refine ret1 hA J J ?_
     exact ⟨rfl, hS.ext⟩
    ·have hr92 := if_f hc90 hr86
     refine sk (rg (adI J J J (by omega) (m1 rfl (on ?_))))
     cases hr92
     intro a w hS hA
     exact ⟨_, hz35, hS, hA.cut ⟨rfl, rfl, rfl, rfl, tv⟩⟩
   ·have hr93 := if_n hc40 hr34
    refine xt rfl ?_
    cases hr93
    obtain rfl := Fin.out hz35
    intro a w hS hA
    exact ⟨_, rfl, hS, hA.cut tv⟩
 ·rintro a w ⟨t32, rfl, hS, hA⟩
  apply TG.ap ?_ hS hA
  refine sq (rg (a1 rfl (on (rt_ ?_))))
  cases hr31
  intro a w hS hA
  refine ret1 hA J J ?_
  exact ⟨rfl, hS.ext⟩

theorem w114 {M : Prop} {W : World} {H : Hp} (hH : H.le (hp W)) {ad_s_0 : Option Addr} {cap_s_0 : Nat} {s_0 : List Heading} (h_s_0 : Sl (RHeading) 4 H ad_s_0 cap_s_0 s_0) {fv_f_1 : Value} {f_1 : Heading → Option Bool} (h_f_1 : FnV M Tryz.prog H fv_f_1 (SF1 (Vr RHeading) Value.bool f_1)) {r : Bool} (hr : m114 s_0 f_1 = some r) : Calls Tryz.prog 114 [.slice ad_s_0 s_0.length cap_s_0, fv_f_1].toArray W (RetS M W (.bool r)) := by
 have := h_s_0.len
 have hh_f_1 := h_f_1
 obtain ⟨f_f_1, fi_f_1, ca_f_1, rfl, _, _⟩ := h_f_1
 unfold m114 at hr
 refine enterG (M := M) Tryz.func114 rfl Tryz.ntmps114 rfl hH ?_
 refine sq (rg (a1 rfl (on (sq (rg (m1 rfl (m1 rfl ?_)))))))
 obtain ⟨r1, hx2, hr3⟩ := bd_some hr
 refine clS C149 J J J J (fun w H hH le => w149 hH (h_s_0.mono (RHeading.mono) (le.at 0 rfl)) (f_1 := f_1) (hh_f_1.mono (le.at 0 rfl)) hx2) (geI J J J (a1 rfl (on (rt_ ?_))))
 cases hr3
 intro a w hS hA
 refine ret1 hA J J ?_
 exact ⟨rfl, hS.ext⟩

theorem w77 {M : Prop} {W : World} {H : Hp} (hH : H.le (hp W)) {ad_l_0 : Option Addr} {cap_l_0 : Nat} {l_0 : List Heading} (h_l_0 : Sl (RHeading) 4 H ad_l_0 cap_l_0 l_0) {fv_right : Value} {right : Heading → Option Bool} (h_right : FnV M Tryz.prog H fv_right (SF1 (Vr RHeading) Value.bool right)) {r : Bool} (hr : m77 l_0 right = some r) : Calls Tryz.prog 77 [.slice ad_l_0 l_0.length cap_l_0, fv_right].toArray W (RetS M W (.bool r)) := by
 have := h_l_0.len
 have hh_right := h_right
 obtain ⟨f_right, fi_right, ca_right, rfl, _, _⟩ := h_right
 unfold m77 at hr
 refine enterG (M := M) Tryz.func77 rfl Tryz.ntmps77 rfl hH ?_
 refine sq (rg (bI (cs := [.func (.func f_right) fi_right.toArray ca_right.toArray]) J J J fun q1 K2 hK3 => (a1 rfl (on (sq (rg (m1 rfl (fn J J J ?_))))))))
 obtain ⟨r5, hx6, hr7⟩ := bd_some hr
 refine clS (v := .bool r5) C114 J J J J (fun w H hH le => by
   have hf4 : FnV M Tryz.prog H (.func (.func 115) [].toArray [.pointer (some q1)].toArray) (SF1 (Vr RHeading) Value.bool (fun x0_ => m115 x0_ right)) := ⟨115, [], [.pointer (some q1)], rfl, C115, fun w_ K_ args_ v_ hK hw hs => by obtain ⟨u0_, x0_, r_, rfl, h0_, hx, rfl⟩ := hs; obtain ⟨_, rfl, h0_⟩ := h0_; exact w115 (H := K_) hw  x0_ h0_ (f0_ := right) (hK3.mono ((le.at 0 rfl).trans hK)) (hh_right.mono ((le.at 1 rfl).trans hK)) hx⟩
   exact w114 hH (h_l_0.mono (RHeading.mono) (le.at 1 rfl)) (f_1 := (fun x0_ => m115 x0_ right)) hf4 hx6) ?_
 refine nt J J (a1 rfl (on (rt_ ?_)))
 cases hr7
 intro a w hS hA
 refine ret1 hA J J ?_
 exact ⟨rfl, hS.ext⟩

theorem w123 {M : Prop} {W : World} {H : Hp} (hH : H.le (hp W)) (x_0 : Bytes) {q_f0_ : Addr} {fv_f0_ : Value} {f0_ : Bytes → Option Bool} (hc_f0_ : CellsAt H q_f0_ [fv_f0_]) (h_f0_ : FnV M Tryz.prog H fv_f0_ (SF1 Vs Value.bool f0_)) {r : Bool} (hr : m123 x_0 f0_ = some r) : Calls Tryz.prog 123 [.string (bs x_0), .pointer (some q_f0_)].toArray W (RetS M W (.bool r)) := by
 have hh_f0_ := h_f0_
 obtain ⟨f_f0_, fi_f0_, ca_f0_, rfl, _, _⟩ := h_f0_
 unfold m123 at hr
 refine enterG (M := M) Tryz.func123 rfl Tryz.ntmps123 rfl hH ?_
 refine sq (rg (a1 rfl (on (sq (rg (ld G130 J J (sS 0 rfl hc_f0_) rfl (m1 rfl ?_)))))))
 obtain ⟨r1, hx2, hr3⟩ := bd_some hr
 refine clV (v := .bool r1) hh_f0_ 0 J J J J (fun H le => ⟨_, x_0, r1, rfl, rfl, hx2, rfl⟩) (nt J J (a1 rfl (on (rt_ ?_))))
 cases hr3
 intro a w hS hA
 refine ret1 hA J J ?_
 exact ⟨rfl, hS.ext⟩

theorem w127 {M : Prop} {W : World} {H : Hp} (hH : H.le (hp W)) {ad_s_0 : Option Addr} {cap_s_0 : Nat} {s_0 : List Bytes} (h_s_0 : Sl (Flat encS) 1 H ad_s_0 cap_s_0 s_0) {fv_f_1 : Value} {f_1 : Bytes → Option Bool} (h_f_1 : FnV M Tryz.prog H fv_f_1 (SF1 Vs Value.bool f_1)) {r : Int} (hr : m127 s_0 f_1 = some r) : Calls Tryz.prog 127 [.slice ad_s_0 s_0.length cap_s_0, fv_f_1].toArray W (RetS M W (.int .i64 r)) := by
 have := h_s_0.len
 have hh_f_1 := h_f_1
 obtain ⟨f_f_1, fi_f_1, ca_f_1, rfl, _, _⟩ := h_f_1
 unfold m127 at hr
 refine enterG (M := M) Tryz.func127 rfl Tryz.ntmps127 rfl hH ?_
 refine sq (rg (a1 rfl (on (sq (sq (rg (m1 rfl (lnL U50 J J (m1 rfl (on ?_))))))))))
 obtain ⟨e19, hl20, hr21⟩ := bd_some hr
 refine jn (fun a w => ∃ t22, e19 = .inl t22 ∧ St M W H [H] [] w ∧ Has [] 19 a []) ?_ ?_
 ·refine bk ?_
  refine lp hl20 (fun s23 a w => St M W H [H] [] w ∧ Has [] 19 a [(0, .slice ad_s_0 s_0.length cap_s_0), (1, .func (.func f_f_1) fi_f_1.toArray ca_f_1.toArray), (7, .int .i64 (s_0.length : Int)), (8, .int .i64 (s23 : Int))]) ?_ ?_
  ·exact cu ⟨rfl, rfl, rfl, rfl, tv⟩
  ·rintro j s23 y26 hr24 hz25 a w ⟨hS, hA⟩
   refine TG.ap ?_ hS hA
   unfold m127_1 at hr24
   refine sq (rg (ltI J J J (on (sq ?_))))
   refine ci rfl (fun hc30 => ?_) (fun hc30 => ?_)
   ·have hr31 := if_p hc30 hr24
    refine sk (sq (bk (sq (rg (m1 rfl (a1 rfl (on (sq (rg (m1 rfl (m1 rfl ?_)))))))))))
    refine m1 rfl ?_
    obtain ⟨x46, hx47, hr48⟩ := bd_some hr31
    obtain ⟨p49, rfl⟩ := h_s_0.adr hx47
    obtain ⟨cs50, hcs51, hq52, hr53⟩ := h_s_0.at hx47
    obtain rfl := hr53
    refine iaP U50 Z9 J J J J (lt_of hx47) (ld G9 J J (sS 0 rfl hq52) rfl ?_)
    obtain ⟨r54, hx55, hr56⟩ := bd_some hr48
    refine clV (v := .bool r54) hh_f_1 0 J J J J (fun H le => ⟨_, x46, r54, rfl, rfl, hx55, rfl⟩) (on ?_)
    refine cb rfl (fun hc60 => ?_) (fun hc60 => ?_)
    ·have hr61 := if_p hc60 hr56
     refine sq (rg (m1 rfl (a1 rfl (on (rt_ ?_)))))
     cases hr61
     obtain rfl := Fin.out hz25
     cases hr21
     intro a w hS hA
     refine ret1 hA J J ?_
     exact ⟨rfl, hS.ext⟩
    ·have hr62 := if_f hc60 hr56
     refine sk (rg (adI J J J (by omega) (m1 rfl (on ?_))))
     cases hr62
     intro a w hS hA
     exact ⟨_, hz25, hS, hA.cut ⟨rfl, rfl, rfl, rfl, tv⟩⟩
   ·have hr63 := if_n hc30 hr24
    refine xt rfl ?_
    cases hr63
    obtain rfl := Fin.out hz25
    intro a w hS hA
    exact ⟨_, rfl, hS, hA.cut tv⟩
 ·rintro a w ⟨t22, rfl, hS, hA⟩
  apply TG.ap ?_ hS hA
  refine sq (rg (a1 rfl (on (rt_ ?_))))
  cases hr21
  intro a w hS hA
  refine ret1 hA J J ?_
  exact ⟨rfl, hS.ext⟩

theorem w122 {M : Prop} {W : World} {H : Hp} (hH : H.le (hp W)) {ad_s_0 : Option Addr} {cap_s_0 : Nat} {s_0 : List Bytes} (h_s_0 : Sl (Flat encS) 1 H ad_s_0 cap_s_0 s_0) {fv_f_1 : Value} {f_1 : Bytes → Option Bool} (h_f_1 : FnV M Tryz.prog H fv_f_1 (SF1 Vs Value.bool f_1)) {r : Bool} (hr : m122 s_0 f_1 = some r) : Calls Tryz.prog 122 [.slice ad_s_0 s_0.length cap_s_0, fv_f_1].toArray W (RetS M W (.bool r)) := by
 have := h_s_0.len
 have hh_f_1 := h_f_1
 obtain ⟨f_f_1, fi_f_1, ca_f_1, rfl, _, _⟩ := h_f_1
 unfold m122 at hr
 refine enterG (M := M) Tryz.func122 rfl Tryz.ntmps122 rfl hH ?_
 refine sq (rg (a1 rfl (on (sq (rg (m1 rfl (m1 rfl ?_)))))))
 obtain ⟨r1, hx2, hr3⟩ := bd_some hr
 refine clS C127 J J J J (fun w H hH le => w127 hH (h_s_0.mono (Flat.mono _) (le.at 0 rfl)) (f_1 := f_1) (hh_f_1.mono (le.at 0 rfl)) hx2) (geI J J J (a1 rfl (on (rt_ ?_))))
 cases hr3
 intro a w hS hA
 refine ret1 hA J J ?_
 exact ⟨rfl, hS.ext⟩

theorem w80 {M : Prop} {W : World} {H : Hp} (hH : H.le (hp W)) {ad_l_0 : Option Addr} {cap_l_0 : Nat} {l_0 : List Bytes} (h_l_0 : Sl (Flat encS) 1 H ad_l_0 cap_l_0 l_0) {fv_right : Value} {right : Bytes → Option Bool} (h_right : FnV M Tryz.prog H fv_right (SF1 Vs Value.bool right)) {r : Bool} (hr : m80 l_0 right = some r) : Calls Tryz.prog 80 [.slice ad_l_0 l_0.length cap_l_0, fv_right].toArray W (RetS M W (.bool r)) := by
 have := h_l_0.len
 have hh_right := h_right
 obtain ⟨f_right, fi_right, ca_right, rfl, _, _⟩ := h_right
 unfold m80 at hr
 refine enterG (M := M) Tryz.func80 rfl Tryz.ntmps80 rfl hH ?_
 refine sq (rg (bI (cs := [.func (.func f_right) fi_right.toArray ca_right.toArray]) J J J fun q1 K2 hK3 => (a1 rfl (on (sq (rg (m1 rfl (fn J J J ?_))))))))
 obtain ⟨r5, hx6, hr7⟩ := bd_some hr
 refine clS (v := .bool r5) C122 J J J J (fun w H hH le => by
   have hf4 : FnV M Tryz.prog H (.func (.func 123) [].toArray [.pointer (some q1)].toArray) (SF1 Vs Value.bool (fun x0_ => m123 x0_ right)) := ⟨123, [], [.pointer (some q1)], rfl, C123, fun w_ K_ args_ v_ hK hw hs => by obtain ⟨u0_, x0_, r_, rfl, h0_, hx, rfl⟩ := hs; cases h0_; exact w123 (H := K_) hw  x0_ (f0_ := right) (hK3.mono ((le.at 0 rfl).trans hK)) (hh_right.mono ((le.at 1 rfl).trans hK)) hx⟩
   exact w122 hH (h_l_0.mono (Flat.mono _) (le.at 1 rfl)) (f_1 := (fun x0_ => m123 x0_ right)) hf4 hx6) ?_
 refine nt J J (a1 rfl (on (rt_ ?_)))
 cases hr7
 intro a w hS hA
 refine ret1 hA J J ?_
 exact ⟨rfl, hS.ext⟩

theorem w150 {M : Prop} {W : World} (b_0 : Int) {r : Bool} (hr : m150 b_0 = some r) : Calls Tryz.prog 150 [.int .u8 b_0].toArray W (RetS M W (.bool r)) := by
 unfold m150 at hr
 refine enterG (M := M) Tryz.func150 rfl Tryz.ntmps150 rfl (Hp.le.refl _) ?_
 refine sq (rg (a1 rfl (on (sq ?_))))
 obtain ⟨t10, hx11, hr12⟩ := bd_some hr
 refine jn (fun a w => St M W (hp W) [(hp W)] [] w ∧ Has [] 15 a [(2, .bool t10)]) ?_ ?_
 ·refine rg (m1 rfl (leI J J J (m1 rfl ?_)))
  by_cases hb13 : (32 : Int) ≤ b_0
  ·have hr14 := if_p hb13 hx11
   refine gt hb13 rfl (m1 rfl (gt hb13 rfl (leI J J J (pt hb13 J J (m1 rfl ?_)))))
   by_cases hb15 : b_0 ≤ 126
   ·have hr16 := if_p hb15 hr14
    refine gt hb15 rfl (m1 rfl (gt hb15 rfl (cvI U5 U21 J J (wr_i32 (by omega)) (gt hb15 rfl ?_))))
    obtain ⟨r17, hx18, hr19⟩ := bd_some hr16
    refine clS C151 J J J J (fun w H hH le => w151 [44, 58, 59, 61] b_0 hx18) (gt hb15 rfl (nt J J (pt hb15 J J (a1 rfl (on ?_)))))
    cases hr19
    exact cu ⟨rfl, tv⟩
   ·have hr20 := if_n hb15 hr14
    refine gf hb15 rfl (gf hb15 rfl (gf hb15 rfl (gf hb15 rfl (pf hb15 J J (a1 rfl (on ?_))))))
    cases hr20
    exact cu ⟨rfl, tv⟩
  ·have hr21 := if_n hb13 hx11
   refine gf hb13 rfl (gf hb13 rfl (pf hb13 J J (m1 rfl (gF J J J J (gF J J J J (gF J J J J (gF J J J J (pF J J J J (a1 rfl (on ?_))))))))))
   cases hr21
   exact cu ⟨rfl, tv⟩
 ·rintro a w ⟨hS, hA⟩
  refine TG.ap ?_ hS hA
  refine rt_ ?_
  cases hr12
  intro a w hS hA
  refine ret1 hA J J ?_
  exact ⟨rfl, hS.ext⟩

theorem w72 {M : Prop} {W : World} (n_0 : Int) (low : Int) (high : Int) {r : Bool} (hr : m72 n_0 low high = some r) : Calls Tryz.prog 72 [.int .i64 n_0, .int .i64 low, .int .i64 high].toArray W (RetS M W (.bool r)) := by
 unfold m72 at hr
 refine enterG (M := M) Tryz.func72 rfl Tryz.ntmps72 rfl (Hp.le.refl _) ?_
 refine sq (rg (a1 rfl (on (sq ?_))))
 obtain ⟨t4, hx5, hr6⟩ := bd_some hr
 refine jn (fun a w => St M W (hp W) [(hp W)] [] w ∧ Has [] 15 a [(6, .bool t4)]) ?_ ?_
 ·refine rg (m1 rfl (m1 rfl (leI J J J (m1 rfl ?_))))
  by_cases hb7 : low ≤ n_0
  ·have hr8 := if_p hb7 hx5
   refine gt hb7 rfl (m1 rfl (gt hb7 rfl (m1 rfl (gt hb7 rfl (leI J J J (pt hb7 J J (a1 rfl (on ?_))))))))
   cases hr8
   exact cu ⟨rfl, tv⟩
  ·have hr9 := if_n hb7 hx5
   refine gf hb7 rfl (gf hb7 rfl (gf hb7 rfl (pf hb7 J J (a1 rfl (on ?_)))))
   cases hr9
   exact cu ⟨rfl, tv⟩
 ·rintro a w ⟨hS, hA⟩
  refine TG.ap ?_ hS hA
  refine rt_ ?_
  cases hr6
  intro a w hS hA
  refine ret1 hA J J ?_
  exact ⟨rfl, hS.ext⟩

theorem w193 {M : Prop} {W : World} {H : Hp} (hH : H.le (hp W)) (x_0 : Int) {q_f0_ : Addr} {fv_f0_ : Value} {f0_ : Int → Option Bool} (hc_f0_ : CellsAt H q_f0_ [fv_f0_]) (h_f0_ : FnV M Tryz.prog H fv_f0_ (SF1 (Vi .u8) Value.bool f0_)) {r : Bool} (hr : m193 x_0 f0_ = some r) : Calls Tryz.prog 193 [.int .u8 x_0, .pointer (some q_f0_)].toArray W (RetS M W (.bool r)) := by
 have hh_f0_ := h_f0_
 obtain ⟨f_f0_, fi_f0_, ca_f0_, rfl, _, _⟩ := h_f0_
 unfold m193 at hr
 refine enterG (M := M) Tryz.func193 rfl Tryz.ntmps193 rfl hH ?_
 refine sq (rg (a1 rfl (on (sq (rg (ld G185 J J (sS 0 rfl hc_f0_) rfl (m1 rfl ?_)))))))
 obtain ⟨r1, hx2, hr3⟩ := bd_some hr
 refine clV (v := .bool r1) hh_f0_ 0 J J J J (fun H le => ⟨_, x_0, r1, rfl, rfl, hx2, rfl⟩) (nt J J (a1 rfl (on (rt_ ?_))))
 cases hr3
 intro a w hS hA
 refine ret1 hA J J ?_
 exact ⟨rfl, hS.ext⟩

theorem w218 {M : Prop} {W : World} {H : Hp} (hH : H.le (hp W)) {ad_s_0 : Option Addr} {cap_s_0 : Nat} {s_0 : List UInt8} (h_s_0 : Sl (Flat encC) 1 H ad_s_0 cap_s_0 s_0) {fv_f_1 : Value} {f_1 : Int → Option Bool} (h_f_1 : FnV M Tryz.prog H fv_f_1 (SF1 (Vi .u8) Value.bool f_1)) {r : Int} (hr : m218 s_0 f_1 = some r) : Calls Tryz.prog 218 [.slice ad_s_0 s_0.length cap_s_0, fv_f_1].toArray W (RetS M W (.int .i64 r)) := by
 have := h_s_0.len
 have hh_f_1 := h_f_1
 obtain ⟨f_f_1, fi_f_1, ca_f_1, rfl, _, _⟩ := h_f_1
 unfold m218 at hr
 refine enterG (M := M) Tryz.func218 rfl Tryz.ntmps218 rfl hH ?_
 refine sq (rg (a1 rfl (on (sq (sq (rg (m1 rfl (lnL U37 J J (m1 rfl (on ?_))))))))))
 obtain ⟨e19, hl20, hr21⟩ := bd_some hr
 refine jn (fun a w => ∃ t22, e19 = .inl t22 ∧ St M W H [H] [] w ∧ Has [] 19 a []) ?_ ?_
 ·refine bk ?_
  refine lp hl20 (fun s23 a w => St M W H [H] [] w ∧ Has [] 19 a [(0, .slice ad_s_0 s_0.length cap_s_0), (1, .func (.func f_f_1) fi_f_1.toArray ca_f_1.toArray), (7, .int .i64 (s_0.length : Int)), (8, .int .i64 (s23 : Int))]) ?_ ?_
  ·exact cu ⟨rfl, rfl, rfl, rfl, tv⟩
  ·rintro j s23 y26 hr24 hz25 a w ⟨hS, hA⟩
   refine TG.ap ?_ hS hA
   unfold m218_1 at hr24
   refine sq (rg (ltI J J J (on (sq ?_))))
   refine ci rfl (fun hc30 => ?_) (fun hc30 => ?_)
   ·have hr31 := if_p hc30 hr24
    refine sk (sq (bk (sq (rg (m1 rfl (a1 rfl (on (sq (rg (m1 rfl (m1 rfl ?_)))))))))))
    refine m1 rfl ?_
    obtain ⟨x46, hx47, hr48⟩ := bd_some hr31
    obtain ⟨p49, rfl⟩ := h_s_0.adr hx47
    obtain ⟨cs50, hcs51, hq52, hr53⟩ := h_s_0.at hx47
    have := UInt8.toNat_lt x46
    obtain rfl := hr53
    refine iaP U37 Z5 J J J J (lt_of hx47) (ld G5 J J (sS 0 rfl hq52) rfl ?_)
    obtain ⟨r54, hx55, hr56⟩ := bd_some hr48
    refine clV (v := .bool r54) hh_f_1 0 J J J J (fun H le => ⟨_, (x46.toNat : Int), r54, rfl, rfl, hx55, rfl⟩) (on ?_)
    refine cb rfl (fun hc60 => ?_) (fun hc60 => ?_)
    ·have hr61 := if_p hc60 hr56
     refine sq (rg (m1 rfl (a1 rfl (on (rt_ ?_)))))
     cases hr61
     obtain rfl := Fin.out hz25
     cases hr21
     intro a w hS hA
     refine ret1 hA J J ?_
     exact ⟨rfl, hS.ext⟩
    ·have hr62 := if_f hc60 hr56
     refine sk (rg (adI J J J (by omega) (m1 rfl (on ?_))))
     cases hr62
     intro a w hS hA
     exact ⟨_, hz25, hS, hA.cut ⟨rfl, rfl, rfl, rfl, tv⟩⟩
   ·have hr63 := if_n hc30 hr24
    refine xt rfl ?_
    cases hr63
    obtain rfl := Fin.out hz25
    intro a w hS hA
    exact ⟨_, rfl, hS, hA.cut tv⟩
 ·rintro a w ⟨t22, rfl, hS, hA⟩
  apply TG.ap ?_ hS hA
  refine sq (rg (a1 rfl (on (rt_ ?_))))
  cases hr21
  intro a w hS hA
  refine ret1 hA J J ?_
  exact ⟨rfl, hS.ext⟩

theorem w192 {M : Prop} {W : World} {H : Hp} (hH : H.le (hp W)) {ad_s_0 : Option Addr} {cap_s_0 : Nat} {s_0 : List UInt8} (h_s_0 : Sl (Flat encC) 1 H ad_s_0 cap_s_0 s_0) {fv_f_1 : Value} {f_1 : Int → Option Bool} (h_f_1 : FnV M Tryz.prog H fv_f_1 (SF1 (Vi .u8) Value.bool f_1)) {r : Bool} (hr : m192 s_0 f_1 = some r) : Calls Tryz.prog 192 [.slice ad_s_0 s_0.length cap_s_0, fv_f_1].toArray W (RetS M W (.bool r)) := by
 have := h_s_0.len
 have hh_f_1 := h_f_1
 obtain ⟨f_f_1, fi_f_1, ca_f_1, rfl, _, _⟩ := h_f_1
 unfold m192 at hr
 refine enterG (M := M) Tryz.func192 rfl Tryz.ntmps192 rfl hH ?_
 refine sq (rg (a1 rfl (on (sq (rg (m1 rfl (m1 rfl ?_)))))))
 obtain ⟨r1, hx2, hr3⟩ := bd_some hr
 refine clS C218 J J J J (fun w H hH le => w218 hH (h_s_0.mono (Flat.mono _) (le.at 0 rfl)) (f_1 := f_1) (hh_f_1.mono (le.at 0 rfl)) hx2) (geI J J J (a1 rfl (on (rt_ ?_))))
 cases hr3
 intro a w hS hA
 refine ret1 hA J J ?_
 exact ⟨rfl, hS.ext⟩

theorem w152 {M : Prop} {W : World} {H : Hp} (hH : H.le (hp W)) {ad_l_0 : Option Addr} {cap_l_0 : Nat} {l_0 : List UInt8} (h_l_0 : Sl (Flat encC) 1 H ad_l_0 cap_l_0 l_0) {fv_right : Value} {right : Int → Option Bool} (h_right : FnV M Tryz.prog H fv_right (SF1 (Vi .u8) Value.bool right)) {r : Bool} (hr : m152 l_0 right = some r) : Calls Tryz.prog 152 [.slice ad_l_0 l_0.length cap_l_0, fv_right].toArray W (RetS M W (.bool r)) := by
 have := h_l_0.len
 have hh_right := h_right
 obtain ⟨f_right, fi_right, ca_right, rfl, _, _⟩ := h_right
 unfold m152 at hr
 refine enterG (M := M) Tryz.func152 rfl Tryz.ntmps152 rfl hH ?_
 refine sq (rg (bI (cs := [.func (.func f_right) fi_right.toArray ca_right.toArray]) J J J fun q1 K2 hK3 => (a1 rfl (on (sq (rg (m1 rfl (fn J J J ?_))))))))
 obtain ⟨r5, hx6, hr7⟩ := bd_some hr
 refine clS (v := .bool r5) C192 J J J J (fun w H hH le => by
   have hf4 : FnV M Tryz.prog H (.func (.func 193) [].toArray [.pointer (some q1)].toArray) (SF1 (Vi .u8) Value.bool (fun x0_ => m193 x0_ right)) := ⟨193, [], [.pointer (some q1)], rfl, C193, fun w_ K_ args_ v_ hK hw hs => by obtain ⟨u0_, x0_, r_, rfl, h0_, hx, rfl⟩ := hs; cases h0_; exact w193 (H := K_) hw  x0_ (f0_ := right) (hK3.mono ((le.at 0 rfl).trans hK)) (hh_right.mono ((le.at 1 rfl).trans hK)) hx⟩
   exact w192 hH (h_l_0.mono (Flat.mono _) (le.at 1 rfl)) (f_1 := (fun x0_ => m193 x0_ right)) hf4 hx6) ?_
 refine nt J J (a1 rfl (on (rt_ ?_)))
 cases hr7
 intro a w hS hA
 refine ret1 hA J J ?_
 exact ⟨rfl, hS.ext⟩

theorem w117 {M : Prop} {W : World} {H : Hp} (hH : H.le (hp W)) (hg : Gv M H) (s_0 : Bytes) {r : Bool} (hr : m117 s_0 = some r) : Calls Tryz.prog 117 [.string (bs s_0)].toArray W (RetS M W (.bool r)) := by
 unfold m117 at hr
 refine enterG (M := M) Tryz.func117 rfl Tryz.ntmps117 rfl hH ?_
 refine sq (rg (a1 rfl (on (sq (rg (a1 rfl (on (sq ?_))))))))
 obtain ⟨t29, hx30, hr31⟩ := bd_some hr
 refine jn (fun a w => St M W H [H] [] w ∧ Has [] 24 a [(2, .bool t29)]) ?_ ?_
 ·refine rg (m1 rfl (lnS U9 J J ?_))
  obtain ⟨r32, hx33, hr34⟩ := bd_some hx30
  refine clS C72 J J J J (fun w H hH le => w72 (s_0.length : Int) 1 40 hx33) (m1 rfl ?_)
  rcases Bool.eq_false_or_eq_true (r32) with hb35 | hb35
  ·have hr36 := if_p hb35 hr34
   refine gN J J (hb35) (m1 rfl (gN J J (hb35) ?_))
   obtain ⟨hk41, hr42⟩ := chk_some hr36
   refine cvB U9 U37 U5 J J hk41 fun ad37 cap38 K39 hl40 => ?_
   have := hl40.len
   refine gN J J (hb35) (m1 rfl (gN J J (hb35) ?_))
   obtain ⟨r44, hx45, hr46⟩ := bd_some hr42
   refine clS (v := .bool r44) C152 J J J J (fun w H hH le => by
     have hf43 : FnV M Tryz.prog H (.func (.func 150) [].toArray [].toArray) (SF1 (Vi .u8) Value.bool (m150)) := ⟨150, [], [], rfl, C150, fun w_ K_ args_ v_ hK hw hs => by obtain ⟨u0_, x0_, r_, rfl, h0_, hx, rfl⟩ := hs; cases h0_; exact w150  x0_  hx⟩
     exact w152 hH (hl40.mono (Flat.mono _) (le.at 0 rfl)) (right := (m150)) hf43 hx45) ?_
   refine pT J J (hb35) rfl (m1 rfl ?_)
   rcases Bool.eq_false_or_eq_true (r44) with hb47 | hb47
   ·have hr48 := if_p hb47 hr46
    refine gN J J (hb47) (m1 rfl (gN J J (hb47) ?_))
    obtain ⟨r49, hx50, hr51⟩ := bd_some hr48
    refine clS C153 J J J J (fun w H hH le => w153 s_0 [32] hx50) (gN J J (hb47) (m1 rfl (gN J J (hb47) (eqS J J J (pT J J (hb47) rfl (m1 rfl ?_))))))
    by_cases hb52 : r49 = s_0
    ·have hr53 := if_p hb52 hr51
     refine gt hb52 rfl (m1 rfl (gt hb52 rfl ?_))
     obtain ⟨r54, hx55, hr56⟩ := bd_some hr53
     refine clS C154 J J J J (fun w H hH le => w154 hH (hg.mono (le.at 1 rfl)) s_0 [32, 32] hx55) (gt hb52 rfl (nt J J (pt hb52 J J (a1 rfl (on ?_)))))
     cases hr56
     intro a w hS hA
     exact ⟨hS.selH [1] rfl, hA.cut ⟨rfl, tv⟩⟩
    ·have hr57 := if_n hb52 hr51
     refine gf hb52 rfl (gf hb52 rfl (gf hb52 rfl (pf hb52 J J (a1 rfl (on ?_)))))
     cases hr57
     intro a w hS hA
     exact ⟨hS.selH [1] rfl, hA.cut ⟨rfl, tv⟩⟩
   ·have hr58 := if_f hb47 hr46
    refine gF J J (hb47) rfl (gF J J (hb47) rfl (gF J J (hb47) rfl (gF J J (hb47) rfl (pF J J (hb47) rfl (m1 rfl (gF J J J J (gF J J J J (gF J J J J (pF J J J J (a1 rfl (on ?_)))))))))))
    cases hr58
    intro a w hS hA
    exact ⟨hS.selH [1] rfl, hA.cut ⟨rfl, tv⟩⟩
  ·have hr59 := if_f hb35 hr34
   refine gF J J (hb35) rfl (gF J J (hb35) rfl (gF J J (hb35) rfl (gF J J (hb35) rfl (pF J J (hb35) rfl (m1 rfl (gF J J J J (gF J J J J (gF J J J J (gF J J J J (pF J J J J (m1 rfl ?_)))))))))))
   refine gF J J J J (gF J J J J (gF J J J J (pF J J J J (a1 rfl (on ?_)))))
   cases hr59
   exact cu ⟨rfl, tv⟩
 ·rintro a w ⟨hS, hA⟩
  refine TG.ap ?_ hS hA
  refine rt_ ?_
  cases hr31
  intro a w hS hA
  refine ret1 hA J J ?_
  exact ⟨rfl, hS.ext⟩

theorem w118 {M : Prop} {W : World} {H : Hp} (hH : H.le (hp W)) {ad_l_0 : Option Addr} {cap_l_0 : Nat} {l_0 : List Bytes} (h_l_0 : Sl (Flat encS) 1 H ad_l_0 cap_l_0 l_0) {fv_before : Value} {before : Bytes → Bytes → Option Bool} (h_before : FnV M Tryz.prog H fv_before (SF2 Vs Vs Value.bool before)) {r : Bool} (hr : m118 l_0 before = some r) : Calls Tryz.prog 118 [.slice ad_l_0 l_0.length cap_l_0, fv_before].toArray W (RetS M W (.bool r)) := by
 have := h_l_0.len
 have hh_before := h_before
 obtain ⟨f_before, fi_before, ca_before, rfl, _, _⟩ := h_before
 unfold m118 at hr
 refine enterG (M := M) Tryz.func118 rfl Tryz.ntmps118 rfl hH ?_
 refine sq (rg (a1 rfl (on (sq (sq (rg (m1 rfl (lnL U50 J J (m1 rfl (on ?_))))))))))
 obtain ⟨e32, hl33, hr34⟩ := bd_some hr
 refine jn (fun a w => ∃ t35, e32 = .inl t35 ∧ St M W H [H] [] w ∧ Has [] 28 a []) ?_ ?_
 ·refine bk ?_
  refine lp hl33 (fun s36 a w => St M W H [H] [] w ∧ Has [] 28 a [(0, .slice ad_l_0 l_0.length cap_l_0), (1, .func (.func f_before) fi_before.toArray ca_before.toArray), (7, .int .i64 (l_0.length : Int)), (8, .int .i64 (s36 : Int))]) ?_ ?_
  ·exact cu ⟨rfl, rfl, rfl, rfl, tv⟩
  ·rintro j s36 y39 hr37 hz38 a w ⟨hS, hA⟩
   refine TG.ap ?_ hS hA
   unfold m118_1 at hr37
   refine sq (rg (ltI J J J (on (sq ?_))))
   refine ci rfl (fun hc43 => ?_) (fun hc43 => ?_)
   ·have hr44 := if_p hc43 hr37
    refine sk (sq (bk (sq (rg (m1 rfl (a1 rfl (on (sq ?_))))))))
    obtain ⟨t95, hx96, hr97⟩ := bd_some hr44
    refine jn (fun a w => St M W H [H] [] w ∧ Has [] 28 a [(0, .slice ad_l_0 l_0.length cap_l_0), (1, .func (.func f_before) fi_before.toArray ca_before.toArray), (7, .int .i64 (l_0.length : Int)), (8, .int .i64 (s36 : Int)), (26, .bool t95)]) ?_ ?_
    ·by_cases hb98 : 0 < (s36 : Int)
     ·have hr99 := if_p hb98 hx96
      obtain ⟨x100, hx101, hr102⟩ := bd_some hr99
      obtain ⟨p103, rfl⟩ := h_l_0.adr hx101
      obtain ⟨cs104, hcs105, hq106, hr107⟩ := h_l_0.at hx101
      obtain rfl := hr107
      obtain ⟨x108, hx109, hr110⟩ := bd_some hr102
      obtain ⟨cs111, hcs112, hq113, hr114⟩ := h_l_0.at hx109
      obtain rfl := hr114
      refine drG 13 mixed (by kernel_rfl) rfl (dt rfl (m1 rfl fin1) (dt rfl (gtI J J J fin1) (dt rfl (m1 rfl fin1) (dt rfl (gt hb98 rfl (m1 rfl fin1)) (dt rfl (gt hb98 rfl (m1 rfl fin1)) (dt rfl (gt hb98 rfl (m1 rfl fin1)) (dt rfl (gt hb98 rfl (sbI J J J (by omega) fin1)) (dt rfl (gt hb98 rfl (iaP U50 Z9 J J J (by omega) (lt_of hx101) fin1)) (dt rfl (gt hb98 rfl (ld G9 J J (sS 1 rfl hq106) rfl fin1)) (dt rfl (gt hb98 rfl (m1 rfl fin1)) (dt rfl (gt hb98 rfl (m1 rfl fin1)) ?_)))))))))))
      refine dt rfl (gt hb98 rfl (iaP U50 Z9 J J J J (lt_of hx109) fin1)) (dt rfl (gt hb98 rfl (ld G9 J J (sS 1 rfl hq113) rfl fin1)) (DF.nil fun K115 hF => (gt hb98 rfl ?_)))
      obtain ⟨r116, hx117, hr118⟩ := bd_some hr110
      refine clV (v := .bool r116) hh_before 1 J J J J (fun H le => ⟨_, _, x100, x108, r116, rfl, rfl, rfl, hx117, rfl⟩) (gt hb98 rfl (nt J J (pt hb98 J J (on ?_))))
      cases hr118
      intro a w hS hA
      exact ⟨hS.selH [1] rfl, hA.cut ⟨rfl, rfl, rfl, rfl, rfl, tv⟩⟩
     ·have hr119 := if_n hb98 hx96
      refine drG 13 mixed (by kernel_rfl) rfl (dt rfl (m1 rfl fin1) (dt rfl (gtI J J J fin1) (dt rfl (m1 rfl fin1) (dt rfl (gf hb98 rfl fin1) (dt rfl (gf hb98 rfl fin1) (dt rfl (gf hb98 rfl fin1) (dt rfl (gf hb98 rfl fin1) (dt rfl (gf hb98 rfl fin1) (dt rfl (gf hb98 rfl fin1) (dt rfl (gf hb98 rfl fin1) (dt rfl (gf hb98 rfl fin1) ?_)))))))))))
      refine dt rfl (gf hb98 rfl fin1) (dt rfl (gf hb98 rfl fin1) (DF.nil fun K120 hF => (gf hb98 rfl (gf hb98 rfl (pf hb98 J J (on ?_))))))
      cases hr119
      intro a w hS hA
      exact ⟨hS.selH [1] rfl, hA.cut ⟨rfl, rfl, rfl, rfl, rfl, tv⟩⟩
    ·rintro a w ⟨hS, hA⟩
     refine TG.ap ?_ hS hA
     refine cb rfl (fun hc124 => ?_) (fun hc124 => ?_)
     ·have hr125 := if_p hc124 hr97
      refine sq (rg (a1 rfl (on (rt_ ?_))))
      cases hr125
      obtain rfl := Fin.out hz38
      cases hr34
      intro a w hS hA
      refine ret1 hA J J ?_
      exact ⟨rfl, hS.ext⟩
     ·have hr126 := if_f hc124 hr97
      refine sk (rg (adI J J J (by omega) (m1 rfl (on ?_))))
      cases hr126
      intro a w hS hA
      exact ⟨_, hz38, hS, hA.cut ⟨rfl, rfl, rfl, rfl, tv⟩⟩
   ·have hr127 := if_n hc43 hr37
    refine xt rfl ?_
    cases hr127
    obtain rfl := Fin.out hz38
    intro a w hS hA
    exact ⟨_, rfl, hS, hA.cut tv⟩
 ·rintro a w ⟨t35, rfl, hS, hA⟩
  apply TG.ap ?_ hS hA
  refine sq (rg (a1 rfl (on (rt_ ?_))))
  cases hr34
  intro a w hS hA
  refine ret1 hA J J ?_
  exact ⟨rfl, hS.ext⟩

theorem w88 {M : Prop} {W : World} (s_0 : Bytes) {r : Bytes} (hr : m88 s_0 = some r) : Calls Tryz.prog 88 [.string (bs s_0)].toArray W (RetS M W (.string (bs r))) := by
 unfold m88 at hr
 refine enterG (M := M) Tryz.func88 rfl Tryz.ntmps88 rfl (Hp.le.refl _) ?_
 refine sq (rg (a1 rfl (on (sq (rg (a1 rfl (on (sq (sq (rg (m1 rfl ?_)))))))))))
 obtain ⟨hk5, hr6⟩ := chk_some hr
 refine cvB U9 U37 U5 J J hk5 fun ad1 cap2 K3 hl4 => ?_
 have := hl4.len
 refine lnL U37 J J (m1 rfl (on (TG.nilRow 3 5 1 (TG.as 3 (z := Own.list none 0 5 1 encC ([] : List UInt8)) J J ?_))))
 obtain ⟨e224, hl225, hr226⟩ := bd_some hr6
 refine jn (fun a w => ∃ (ad227 : Option Addr) (cap228 : Nat), St M W (hp W) [K3, (hp W)] [(3, Own.list ad227 cap228 5 1 encC e224)] w ∧ Has [] 48 a [(3, .slice ad227 e224.length cap228)]) ?_ ?_
 ·refine bk ?_
  refine lp hl225 (fun s229 a w => ∃ (ad230 : Option Addr) (cap231 : Nat), St M W (hp W) [K3, (hp W)] [(3, Own.list ad230 cap231 5 1 encC s229.2)] w ∧ Has [] 48 a [(3, .slice ad230 s229.2.length cap231), (7, .slice ad1 s_0.length cap2), (8, .int .i64 (s_0.length : Int)), (9, .int .i64 (s229.1 : Int))]) ?_ ?_
  ·intro a w hS hA
   exact ⟨none, 0, hS, hA.cut ⟨rfl, rfl, rfl, rfl, tv⟩⟩
  ·rintro j s229 y234 hr232 hz233 a w ⟨ad230, cap231, hS, hA⟩
   refine TG.ap ?_ hS hA
   unfold m88_1 at hr232
   refine sq (rg (ltI J J J (on (sq ?_))))
   refine ci rfl (fun hc238 => ?_) (fun hc238 => ?_)
   ·have hr239 := if_p hc238 hr232
    refine sk (sq (bk (sq (rg ?_))))
    obtain ⟨x291, hx292, hr293⟩ := bd_some hr239
    obtain ⟨p294, rfl⟩ := hl4.adr hx292
    obtain ⟨cs295, hcs296, hq297, hr298⟩ := hl4.at hx292
    have := UInt8.toNat_lt x291
    obtain rfl := hr298
    refine iaP U37 Z5 J J J J (lt_of hx292) (ld G5 J J (sS 0 rfl hq297) rfl (a1 rfl (on (bk (sq ?_)))))
    obtain ⟨t345, hx346, hr347⟩ := bd_some hr293
    refine jn (fun a w => St M W (hp W) [K3, (hp W)] [(3, Own.list ad230 cap231 5 1 encC s229.2)] w ∧ Has [] 48 a [(3, .slice ad230 s229.2.length cap231), (5, .int .u8 (x291.toNat : Int)), (7, .slice (some p294) s_0.length cap2), (8, .int .i64 (s_0.length : Int)), (9, .int .i64 (s229.1 : Int)), (13, .bool t345)]) ?_ ?_
    ·refine rg (m1 rfl (leI J J J (m1 rfl ?_)))
     by_cases hb348 : (65 : Int) ≤ (x291.toNat : Int)
     ·have hr349 := if_p hb348 hx346
      refine gt hb348 rfl (m1 rfl (gt hb348 rfl (leI J J J (pt hb348 J J (a1 rfl (on ?_))))))
      cases hr349
      exact cu ⟨rfl, rfl, rfl, rfl, rfl, rfl, tv⟩
     ·have hr350 := if_n hb348 hx346
      refine gf hb348 rfl (gf hb348 rfl (pf hb348 J J (a1 rfl (on ?_))))
      cases hr350
      exact cu ⟨rfl, rfl, rfl, rfl, rfl, rfl, tv⟩
    ·rintro a w ⟨hS, hA⟩
     refine TG.ap ?_ hS hA
     obtain ⟨t387, hx388, hr389⟩ := bd_some hr347
     refine jn (fun a w => ∃ (ad390 : Option Addr) (cap391 : Nat), St M W (hp W) [K3, (hp W)] [(3, Own.list ad390 cap391 5 1 encC t387)] w ∧ Has [] 48 a [(3, .slice ad390 t387.length cap391), (7, .slice (some p294) s_0.length cap2), (8, .int .i64 (s_0.length : Int)), (9, .int .i64 (s229.1 : Int))]) ?_ ?_
     ·refine cb rfl (fun hc392 => ?_) (fun hc392 => ?_)
      ·have hr393 := if_p hc392 hx388
       refine rg (m1 rfl (m1 rfl ?_))
       obtain ⟨hk394, hr395⟩ := chk_some hr393
       refine wrI ((x291.toNat : Int) - 65) J J J (wr_u8 hk394) ?_
       obtain ⟨hk396, hr397⟩ := chk_some hr395
       refine wrI (((x291.toNat : Int) - 65) + 97) J J J (wr_u8 hk396) ?_
       obtain ⟨hk398, hr399⟩ := chk_some hr397
       have := lenA s229.2 [(UInt8.ofNat (((x291.toNat : Int) - 65) + 97).toNat)]
       have := len1 (UInt8.ofNat (((x291.toNat : Int) - 65) + 97).toNat)
       refine ap1 3 encC (l := s229.2) (UInt8.ofNat (((x291.toNat : Int) - 65) + 97).toNat) T11.E37 J J J J J J J (u8c hk396) J J J J hk398 fun ad400 cap401 u402 => (a1 rfl (on ?_))
       cases hr399
       intro a w hS hA
       exact ⟨ad400, cap401, hS, hA.cut ⟨rfl, rfl, rfl, rfl, tv⟩⟩
      ·have hr403 := if_f hc392 hx388
       refine sq ?_
       obtain ⟨t416, hx417, hr418⟩ := bd_some hr403
       refine jn (fun a w => St M W (hp W) [K3, (hp W)] [(3, Own.list ad230 cap231 5 1 encC s229.2)] w ∧ Has [] 48 a [(3, .slice ad230 s229.2.length cap231), (5, .int .u8 (x291.toNat : Int)), (7, .slice (some p294) s_0.length cap2), (8, .int .i64 (s_0.length : Int)), (9, .int .i64 (s229.1 : Int)), (26, .bool t416)]) ?_ ?_
       ·refine rg (m1 rfl (leI J J J (m1 rfl ?_)))
        by_cases hb419 : (97 : Int) ≤ (x291.toNat : Int)
        ·have hr420 := if_p hb419 hx417
         refine gt hb419 rfl (m1 rfl (gt hb419 rfl (leI J J J (pt hb419 J J (m1 rfl ?_)))))
         by_cases hb421 : (x291.toNat : Int) ≤ 122
         ·have hr422 := if_p hb421 hr420
          refine gf' hb421 rfl (gf' hb421 rfl (gf' hb421 rfl (gU J J J (gU J J J (gf' hb421 rfl (pt hb421 J J (a1 rfl (on ?_))))))))
          cases hr422
          exact cu ⟨rfl, rfl, rfl, rfl, rfl, rfl, tv⟩
         ·have hr423 := if_n hb421 hr420
          refine gt' hb421 rfl (m1 rfl (gt' hb421 rfl (leI J J J (gt' hb421 rfl (m1 rfl ?_)))))
          by_cases hb424 : (48 : Int) ≤ (x291.toNat : Int)
          ·have hr425 := if_p hb424 hr423
           refine gt hb424 rfl (m1 rfl (gt hb424 rfl (leI J J J (gt' hb421 rfl (pt hb424 J J (pf hb421 J J (a1 rfl (on ?_))))))))
           cases hr425
           exact cu ⟨rfl, rfl, rfl, rfl, rfl, rfl, tv⟩
          ·have hr426 := if_n hb424 hr423
           refine gf hb424 rfl (gf hb424 rfl (gt' hb421 rfl (pf hb424 J J (pf hb421 J J (a1 rfl (on ?_))))))
           cases hr426
           exact cu ⟨rfl, rfl, rfl, rfl, rfl, rfl, tv⟩
        ·have hr427 := if_n hb419 hx417
         refine gf hb419 rfl (gf hb419 rfl (pf hb419 J J (m1 rfl (gN J J J (m1 rfl (gN J J J (leI J J J (gN J J J (m1 rfl ?_)))))))))
         by_cases hb428 : (48 : Int) ≤ (x291.toNat : Int)
         ·have hr429 := if_p hb428 hr427
          refine gt hb428 rfl (m1 rfl (gt hb428 rfl (leI J J J (gN J J J (pt hb428 J J (pF J J J J (a1 rfl (on ?_))))))))
          cases hr429
          exact cu ⟨rfl, rfl, rfl, rfl, rfl, rfl, tv⟩
         ·have hr430 := if_n hb428 hr427
          refine gf hb428 rfl (gf hb428 rfl (gN J J J (pf hb428 J J (pF J J J J (a1 rfl (on ?_))))))
          cases hr430
          exact cu ⟨rfl, rfl, rfl, rfl, rfl, rfl, tv⟩
       ·rintro a w ⟨hS, hA⟩
        refine TG.ap ?_ hS hA
        obtain ⟨t439, hx440, hr441⟩ := bd_some hr418
        refine jn (fun a w => ∃ (ad442 : Option Addr) (cap443 : Nat), St M W (hp W) [K3, (hp W)] [(3, Own.list ad442 cap443 5 1 encC t439)] w ∧ Has [] 48 a [(3, .slice ad442 t439.length cap443), (7, .slice (some p294) s_0.length cap2), (8, .int .i64 (s_0.length : Int)), (9, .int .i64 (s229.1 : Int))]) ?_ ?_
        ·refine cb rfl (fun hc444 => ?_) (fun hc444 => ?_)
         ·have hr445 := if_p hc444 hx440
          refine rg (m1 rfl (m1 rfl ?_))
          obtain ⟨hk446, hr447⟩ := chk_some hr445
          have := lenA s229.2 [x291]
          have := len1 x291
          refine ap1 3 encC (l := s229.2) x291 T11.E37 J J J J J J J J J J J J hk446 fun ad448 cap449 u450 => (a1 rfl (on ?_))
          cases hr447
          intro a w hS hA
          exact ⟨ad448, cap449, hS, hA.cut ⟨rfl, rfl, rfl, rfl, tv⟩⟩
         ·have hr451 := if_f hc444 hx440
          refine sk ?_
          cases hr451
          intro a w hS hA
          exact ⟨ad230, cap231, hS, hA.cut ⟨rfl, rfl, rfl, rfl, tv⟩⟩
        ·rintro a w ⟨ad442, cap443, hS, hA⟩
         cases hr441
         exact ⟨ad442, cap443, hS, hA.cut ⟨rfl, rfl, rfl, rfl, tv⟩⟩
     ·rintro a w ⟨ad390, cap391, hS, hA⟩
      refine TG.ap ?_ hS hA
      refine rg (adI J J J (by omega) (m1 rfl (on ?_)))
      cases hr389
      intro a w hS hA
      exact ⟨_, hz233, ad390, cap391, hS, hA.cut ⟨rfl, rfl, rfl, rfl, tv⟩⟩
   ·have hr452 := if_n hc238 hr232
    refine xt rfl ?_
    cases hr452
    obtain rfl := Fin.out hz233
    intro a w hS hA
    exact ⟨ad230, cap231, hS, hA.cut ⟨rfl, tv⟩⟩
 ·rintro a w ⟨ad227, cap228, hS, hA⟩
  apply TG.ap ?_ hS hA
  refine sq (rg (m1 rfl (TG.still 3 rfl (fun _ => rfl) fun K453 hl454 => ?_)))
  have := hl454.len
  refine cvT hl454 0 rfl U37 U5 U9 J J (a1 rfl (on (rt_ ?_)))
  cases hr226
  intro a w hS hA
  refine ret1 hA J J ?_
  exact ⟨rfl, hS.ext⟩

theorem w86 {M : Prop} {W : World} {H : Hp} (hH : H.le (hp W)) {ad_vals : Option Addr} {cap_vals : Nat} {vals : List Int} (h_vals : Sl (Flat (encI .i64)) 1 H ad_vals cap_vals vals) {r : Int} (hr : m86 vals = some r) : Calls Tryz.prog 86 [.slice ad_vals vals.length cap_vals].toArray W (RetS M W (.int .i64 r)) := by
 have := h_vals.len
 unfold m86 at hr
 refine enterG (M := M) Tryz.func86 rfl Tryz.ntmps86 rfl hH ?_
 refine sq (rg (a1 rfl (on (sq (rg (a1 rfl (on (sq (sq (rg (m1 rfl ?_)))))))))))
 refine lnL U125 J J (m1 rfl (on ?_))
 obtain ⟨e16, hl17, hr18⟩ := bd_some hr
 refine jn (fun a w => ∃ t19, e16 = .inl t19 ∧ St M W H [H] [] w ∧ Has [] 18 a [(3, .int .i64 0)]) ?_ ?_
 ·refine bk ?_
  refine lp hl17 (fun s20 a w => St M W H [H] [] w ∧ Has [] 18 a [(3, .int .i64 0), (6, .slice ad_vals vals.length cap_vals), (7, .int .i64 (vals.length : Int)), (8, .int .i64 (s20 : Int))]) ?_ ?_
  ·exact cu ⟨rfl, rfl, rfl, rfl, tv⟩
  ·rintro j s20 y23 hr21 hz22 a w ⟨hS, hA⟩
   refine TG.ap ?_ hS hA
   unfold m86_1 at hr21
   refine sq (rg (ltI J J J (on (sq ?_))))
   refine ci rfl (fun hc27 => ?_) (fun hc27 => ?_)
   ·have hr28 := if_p hc27 hr21
    refine sk (sq (bk (sq (rg ?_))))
    obtain ⟨x40, hx41, hr42⟩ := bd_some hr28
    obtain ⟨p43, rfl⟩ := h_vals.adr hx41
    obtain ⟨cs44, hcs45, hq46, hr47⟩ := h_vals.at hx41
    obtain rfl := hr47
    refine iaP U125 Z3 J J J J (lt_of hx41) (ld G3 J J (sS 0 rfl hq46) rfl (a1 rfl (on (sq (rg (m1 rfl (m1 rfl (neI J J J (on ?_)))))))))
    refine ci rfl (fun hc51 => ?_) (fun hc51 => ?_)
    ·have hr52 := if_p hc51 hr42
     refine sq (rg (m1 rfl (a1 rfl (on (rt_ ?_)))))
     cases hr52
     obtain rfl := Fin.out hz22
     cases hr18
     intro a w hS hA
     refine ret1 hA J J ?_
     exact ⟨rfl, hS.ext⟩
    ·have hr53 := if_n hc51 hr42
     refine sk (rg (adI J J J (by omega) (m1 rfl (on ?_))))
     cases hr53
     intro a w hS hA
     exact ⟨_, hz22, hS, hA.cut ⟨rfl, rfl, rfl, rfl, tv⟩⟩
   ·have hr54 := if_n hc27 hr21
    refine xt rfl ?_
    cases hr54
    obtain rfl := Fin.out hz22
    intro a w hS hA
    exact ⟨_, rfl, hS, hA.cut ⟨rfl, tv⟩⟩
 ·rintro a w ⟨t19, rfl, hS, hA⟩
  apply TG.ap ?_ hS hA
  refine sq (rg (m1 rfl (a1 rfl (on (rt_ ?_)))))
  cases hr18
  intro a w hS hA
  refine ret1 hA J J ?_
  exact ⟨rfl, hS.ext⟩

theorem w55 {M : Prop} {W : World} (a_0 : Bytes) (b_1 : Bytes) {r : Int} (hr : m55 a_0 b_1 = some r) : Calls Tryz.prog 55 [.string (bs a_0), .string (bs b_1)].toArray W (RetS M W (.int .i64 r)) := by
 unfold m55 at hr
 refine enterG (M := M) Tryz.func55 rfl Tryz.ntmps55 rfl (Hp.le.refl _) ?_
 refine sq (rg (a1 rfl (on (sq (rg (m1 rfl ?_))))))
 obtain ⟨r1, hx2, hr3⟩ := bd_some hr
 refine clS C88 J J J J (fun w H hH le => w88 a_0 hx2) (m1 rfl ?_)
 obtain ⟨r4, hx5, hr6⟩ := bd_some hr3
 refine clS C88 J J J J (fun w H hH le => w88 b_1 hx5) ?_
 obtain ⟨r7, hx8, hr9⟩ := bd_some hr6
 refine clS C87 J J J J (fun w H hH le => w87 r1 r4 hx8) (m1 rfl (m1 rfl ?_))
 obtain ⟨r10, hx11, hr12⟩ := bd_some hr9
 refine clS C87 J J J J (fun w H hH le => w87 a_0 b_1 hx11) (bS (cs := [.int .i64 r7, .int .i64 r10]) T11.E125 J J J J fun q13 K14 hq15 hK16 => ?_)
 have hl17 : Sl (Flat (encI .i64)) 1 K14 (some q13) 2 ([r7, r10] : List Int) := Sl.litR (css := [[.int .i64 r7], [.int .i64 r10]]) (l := ([r7, r10] : List Int)) ⟨⟨rfl, rfl, rfl⟩, ⟨rfl, rfl, rfl⟩, tv⟩ hq15 hK16 rfl
 have := hl17.len
 obtain ⟨r18, hx19, hr20⟩ := bd_some hr12
 refine clS C86 J J J J (fun w H hH le => w86 hH (hl17.mono (Flat.mono _) (le.at 0 rfl)) hx19) (a1 rfl (on (rt_ ?_)))
 cases hr20
 intro a w hS hA
 refine ret1 hA J J ?_
 exact ⟨rfl, hS.ext⟩

theorem w32 {M : Prop} {W : World} (a_0 : Bytes) (b_1 : Bytes) {r : Bool} (hr : m32 a_0 b_1 = some r) : Calls Tryz.prog 32 [.string (bs a_0), .string (bs b_1)].toArray W (RetS M W (.bool r)) := by
 unfold m32 at hr
 refine enterG (M := M) Tryz.func32 rfl Tryz.ntmps32 rfl (Hp.le.refl _) ?_
 refine sq (rg (a1 rfl (on (sq (rg (m1 rfl (m1 rfl ?_)))))))
 obtain ⟨r1, hx2, hr3⟩ := bd_some hr
 refine clS C55 J J J J (fun w H hH le => w55 a_0 b_1 hx2) (ltI J J J (a1 rfl (on (rt_ ?_))))
 cases hr3
 intro a w hS hA
 refine ret1 hA J J ?_
 exact ⟨rfl, hS.ext⟩

theorem w116 {M : Prop} {W : World} {H : Hp} (hH : H.le (hp W)) (hg : Gv M H) {ad_l_0 : Option Addr} {cap_l_0 : Nat} {l_0 : List Bytes} (h_l_0 : Sl (Flat encS) 1 H ad_l_0 cap_l_0 l_0) {r : Bool} (hr : m116 l_0 = some r) : Calls Tryz.prog 116 [.slice ad_l_0 l_0.length cap_l_0].toArray W (RetS M W (.bool r)) := by
 have := h_l_0.len
 unfold m116 at hr
 refine enterG (M := M) Tryz.func116 rfl Tryz.ntmps116 rfl hH ?_
 refine sq (rg (a1 rfl (on (sq ?_))))
 obtain ⟨t15, hx16, hr17⟩ := bd_some hr
 refine jn (fun a w => St M W H [H] [] w ∧ Has [] 14 a [(2, .bool t15)]) ?_ ?_
 ·refine rg (m1 rfl (lnL U50 J J (leI J J J (m1 rfl ?_))))
  by_cases hb18 : (l_0.length : Int) ≤ 8
  ·have hr19 := if_p hb18 hx16
   refine gt hb18 rfl (m1 rfl (gt hb18 rfl ?_))
   obtain ⟨r21, hx22, hr23⟩ := bd_some hr19
   refine clS (v := .bool r21) C80 J J J J (fun w H hH le => by
     have hf20 : FnV M Tryz.prog H (.func (.func 117) [].toArray [].toArray) (SF1 Vs Value.bool (m117)) := ⟨117, [], [], rfl, C117, fun w_ K_ args_ v_ hK hw hs => by obtain ⟨u0_, x0_, r_, rfl, h0_, hx, rfl⟩ := hs; cases h0_; exact w117 (H := K_) hw (hg.mono ((le.at 0 rfl).trans hK))  x0_  hx⟩
     exact w80 hH (h_l_0.mono (Flat.mono _) (le.at 0 rfl)) (right := (m117)) hf20 hx22) ?_
   refine pt hb18 J J (m1 rfl ?_)
   rcases Bool.eq_false_or_eq_true (r21) with hb24 | hb24
   ·have hr25 := if_p hb24 hr23
    refine gN J J (hb24) (m1 rfl (gN J J (hb24) ?_))
    obtain ⟨r27, hx28, hr29⟩ := bd_some hr25
    refine clS (v := .bool r27) C118 J J J J (fun w H hH le => by
      have hf26 : FnV M Tryz.prog H (.func (.func 32) [].toArray [].toArray) (SF2 Vs Vs Value.bool (m32)) := ⟨32, [], [], rfl, C32, fun w_ K_ args_ v_ hK hw hs => by obtain ⟨u0_, u1_, x0_, x1_, r_, rfl, h0_, h1_, hx, rfl⟩ := hs; cases h0_; cases h1_; exact w32  x0_ x1_  hx⟩
      exact w118 hH (h_l_0.mono (Flat.mono _) (le.at 0 rfl)) (before := (m32)) hf26 hx28) ?_
    refine pT J J (hb24) rfl (a1 rfl (on ?_))
    cases hr29
    exact cu ⟨rfl, tv⟩
   ·have hr30 := if_f hb24 hr23
    refine gF J J (hb24) rfl (gF J J (hb24) rfl (pF J J (hb24) rfl (a1 rfl (on ?_))))
    cases hr30
    exact cu ⟨rfl, tv⟩
  ·have hr31 := if_n hb18 hx16
   refine gf hb18 rfl (gf hb18 rfl (pf hb18 J J (m1 rfl (gF J J J J (gF J J J J (pF J J J J (a1 rfl (on ?_))))))))
   cases hr31
   exact cu ⟨rfl, tv⟩
 ·rintro a w ⟨hS, hA⟩
  refine TG.ap ?_ hS hA
  refine rt_ ?_
  cases hr17
  intro a w hS hA
  refine ret1 hA J J ?_
  exact ⟨rfl, hS.ext⟩

theorem w156 {M : Prop} {W : World} {H : Hp} (hH : H.le (hp W)) {cs_x_0 : List Value} (x_0 : Place) (h_x_0 : (Flat encPlace) H cs_x_0 x_0) {q_f0_ : Addr} {fv_f0_ : Value} {f0_ : Place → Option Bool} (hc_f0_ : CellsAt H q_f0_ [fv_f0_]) (h_f0_ : FnV M Tryz.prog H fv_f0_ (SF1 (Va encPlace) Value.bool f0_)) {r : Bool} (hr : m156 x_0 f0_ = some r) : Calls Tryz.prog 156 [.agg cs_x_0.toArray, .pointer (some q_f0_)].toArray W (RetS M W (.bool r)) := by
 obtain rfl := h_x_0
 have hh_f0_ := h_f0_
 obtain ⟨f_f0_, fi_f0_, ca_f0_, rfl, _, _⟩ := h_f0_
 unfold m156 at hr
 refine enterG (M := M) Tryz.func156 rfl Tryz.ntmps156 rfl hH ?_
 refine sq (rg (bI (cs := [.int .i64 x_0.volume, .int .i64 x_0.from_, .int .i64 x_0.to_]) J J J fun q1 K2 hK3 => (a1 rfl (on (sq (rg (ld G140 J J (sS 1 rfl hc_f0_) rfl (ldA G81 Z81 J J (sS 0 rfl hK3) rfl ?_))))))))
 obtain ⟨r4, hx5, hr6⟩ := bd_some hr
 refine clV (v := .bool r4) hh_f0_ 1 J J J J (fun H le => ⟨_, x_0, r4, rfl, rfl, hx5, rfl⟩) (nt J J (a1 rfl (on (rt_ ?_))))
 cases hr6
 intro a w hS hA
 refine ret1 hA J J ?_
 exact ⟨rfl, hS.ext⟩

theorem w201 {M : Prop} {W : World} {H : Hp} (hH : H.le (hp W)) {ad_s_0 : Option Addr} {cap_s_0 : Nat} {s_0 : List Place} (h_s_0 : Sl (Flat encPlace) 3 H ad_s_0 cap_s_0 s_0) {fv_f_1 : Value} {f_1 : Place → Option Bool} (h_f_1 : FnV M Tryz.prog H fv_f_1 (SF1 (Va encPlace) Value.bool f_1)) {r : Int} (hr : m201 s_0 f_1 = some r) : Calls Tryz.prog 201 [.slice ad_s_0 s_0.length cap_s_0, fv_f_1].toArray W (RetS M W (.int .i64 r)) := by
 have := h_s_0.len
 have hh_f_1 := h_f_1
 obtain ⟨f_f_1, fi_f_1, ca_f_1, rfl, _, _⟩ := h_f_1
 unfold m201 at hr
 refine enterG (M := M) Tryz.func201 rfl Tryz.ntmps201 rfl hH ?_
 refine sq (rg (a1 rfl (on (sq (sq (rg (m1 rfl (lnL U62 J J (m1 rfl (on ?_))))))))))
 obtain ⟨e19, hl20, hr21⟩ := bd_some hr
 refine jn (fun a w => ∃ t22, e19 = .inl t22 ∧ St M W H [H] [] w ∧ Has [] 19 a []) ?_ ?_
 ·refine bk ?_
  refine lp hl20 (fun s23 a w => St M W H [H] [] w ∧ Has [] 19 a [(0, .slice ad_s_0 s_0.length cap_s_0), (1, .func (.func f_f_1) fi_f_1.toArray ca_f_1.toArray), (7, .int .i64 (s_0.length : Int)), (8, .int .i64 (s23 : Int))]) ?_ ?_
  ·exact cu ⟨rfl, rfl, rfl, rfl, tv⟩
  ·rintro j s23 y26 hr24 hz25 a w ⟨hS, hA⟩
   refine TG.ap ?_ hS hA
   unfold m201_1 at hr24
   refine sq (rg (ltI J J J (on (sq ?_))))
   refine ci rfl (fun hc30 => ?_) (fun hc30 => ?_)
   ·have hr31 := if_p hc30 hr24
    refine sk (sq (bk (sq (rg (m1 rfl (a1 rfl (on (sq (rg (m1 rfl (m1 rfl ?_)))))))))))
    refine m1 rfl ?_
    obtain ⟨x46, hx47, hr48⟩ := bd_some hr31
    obtain ⟨p49, rfl⟩ := h_s_0.adr hx47
    obtain ⟨cs50, hcs51, hq52, hr53⟩ := h_s_0.at hx47
    obtain rfl := hr53
    refine iaP U62 Z81 J J J J (lt_of hx47) (ldA G81 Z81 J J (sS 0 rfl hq52) rfl ?_)
    obtain ⟨r54, hx55, hr56⟩ := bd_some hr48
    refine clV (v := .bool r54) hh_f_1 0 J J J J (fun H le => ⟨_, x46, r54, rfl, rfl, hx55, rfl⟩) (on ?_)
    refine cb rfl (fun hc60 => ?_) (fun hc60 => ?_)
    ·have hr61 := if_p hc60 hr56
     refine sq (rg (m1 rfl (a1 rfl (on (rt_ ?_)))))
     cases hr61
     obtain rfl := Fin.out hz25
     cases hr21
     intro a w hS hA
     refine ret1 hA J J ?_
     exact ⟨rfl, hS.ext⟩
    ·have hr62 := if_f hc60 hr56
     refine sk (rg (adI J J J (by omega) (m1 rfl (on ?_))))
     cases hr62
     intro a w hS hA
     exact ⟨_, hz25, hS, hA.cut ⟨rfl, rfl, rfl, rfl, tv⟩⟩
   ·have hr63 := if_n hc30 hr24
    refine xt rfl ?_
    cases hr63
    obtain rfl := Fin.out hz25
    intro a w hS hA
    exact ⟨_, rfl, hS, hA.cut tv⟩
 ·rintro a w ⟨t22, rfl, hS, hA⟩
  apply TG.ap ?_ hS hA
  refine sq (rg (a1 rfl (on (rt_ ?_))))
  cases hr21
  intro a w hS hA
  refine ret1 hA J J ?_
  exact ⟨rfl, hS.ext⟩

theorem w155 {M : Prop} {W : World} {H : Hp} (hH : H.le (hp W)) {ad_s_0 : Option Addr} {cap_s_0 : Nat} {s_0 : List Place} (h_s_0 : Sl (Flat encPlace) 3 H ad_s_0 cap_s_0 s_0) {fv_f_1 : Value} {f_1 : Place → Option Bool} (h_f_1 : FnV M Tryz.prog H fv_f_1 (SF1 (Va encPlace) Value.bool f_1)) {r : Bool} (hr : m155 s_0 f_1 = some r) : Calls Tryz.prog 155 [.slice ad_s_0 s_0.length cap_s_0, fv_f_1].toArray W (RetS M W (.bool r)) := by
 have := h_s_0.len
 have hh_f_1 := h_f_1
 obtain ⟨f_f_1, fi_f_1, ca_f_1, rfl, _, _⟩ := h_f_1
 unfold m155 at hr
 refine enterG (M := M) Tryz.func155 rfl Tryz.ntmps155 rfl hH ?_
 refine sq (rg (a1 rfl (on (sq (rg (m1 rfl (m1 rfl ?_)))))))
 obtain ⟨r1, hx2, hr3⟩ := bd_some hr
 refine clS C201 J J J J (fun w H hH le => w201 hH (h_s_0.mono (Flat.mono _) (le.at 0 rfl)) (f_1 := f_1) (hh_f_1.mono (le.at 0 rfl)) hx2) (geI J J J (a1 rfl (on (rt_ ?_))))
 cases hr3
 intro a w hS hA
 refine ret1 hA J J ?_
 exact ⟨rfl, hS.ext⟩

theorem w119 {M : Prop} {W : World} {H : Hp} (hH : H.le (hp W)) {ad_l_0 : Option Addr} {cap_l_0 : Nat} {l_0 : List Place} (h_l_0 : Sl (Flat encPlace) 3 H ad_l_0 cap_l_0 l_0) {fv_right : Value} {right : Place → Option Bool} (h_right : FnV M Tryz.prog H fv_right (SF1 (Va encPlace) Value.bool right)) {r : Bool} (hr : m119 l_0 right = some r) : Calls Tryz.prog 119 [.slice ad_l_0 l_0.length cap_l_0, fv_right].toArray W (RetS M W (.bool r)) := by
 have := h_l_0.len
 have hh_right := h_right
 obtain ⟨f_right, fi_right, ca_right, rfl, _, _⟩ := h_right
 unfold m119 at hr
 refine enterG (M := M) Tryz.func119 rfl Tryz.ntmps119 rfl hH ?_
 refine sq (rg (bI (cs := [.func (.func f_right) fi_right.toArray ca_right.toArray]) J J J fun q1 K2 hK3 => (a1 rfl (on (sq (rg (m1 rfl (fn J J J ?_))))))))
 obtain ⟨r5, hx6, hr7⟩ := bd_some hr
 refine clS (v := .bool r5) C155 J J J J (fun w H hH le => by
   have hf4 : FnV M Tryz.prog H (.func (.func 156) [].toArray [.pointer (some q1)].toArray) (SF1 (Va encPlace) Value.bool (fun x0_ => m156 x0_ right)) := ⟨156, [], [.pointer (some q1)], rfl, C156, fun w_ K_ args_ v_ hK hw hs => by obtain ⟨u0_, x0_, r_, rfl, h0_, hx, rfl⟩ := hs; cases h0_; exact w156 (H := K_) hw  x0_ rfl (f0_ := right) (hK3.mono ((le.at 0 rfl).trans hK)) (hh_right.mono ((le.at 1 rfl).trans hK)) hx⟩
   exact w155 hH (h_l_0.mono (Flat.mono _) (le.at 1 rfl)) (f_1 := (fun x0_ => m156 x0_ right)) hf4 hx6) ?_
 refine nt J J (a1 rfl (on (rt_ ?_)))
 cases hr7
 intro a w hS hA
 refine ret1 hA J J ?_
 exact ⟨rfl, hS.ext⟩

theorem w120 {M : Prop} {W : World} {cs_p_0 : List Value} (p_0 : Place) (h_p_0 : (Flat encPlace) (hp W) cs_p_0 p_0) {r : Bool} (hr : m120 p_0 = some r) : Calls Tryz.prog 120 [.agg cs_p_0.toArray].toArray W (RetS M W (.bool r)) := by
 obtain rfl := h_p_0
 unfold m120 at hr
 refine enterG (M := M) Tryz.func120 rfl Tryz.ntmps120 rfl (Hp.le.refl _) ?_
 refine sq (rg (bI (cs := [.int .i64 p_0.volume, .int .i64 p_0.from_, .int .i64 p_0.to_]) J J J fun q1 K2 hK3 => (a1 rfl (on (sq ?_)))))
 obtain ⟨t16, hx17, hr18⟩ := bd_some hr
 refine jn (fun a w => St M W (hp W) [K2, (hp W)] [] w ∧ Has [] 18 a [(2, .bool t16)]) ?_ ?_
 ·refine rg (fb 0 U81 J J J J Z3 (ld G3 J J ((sS 0 rfl hK3).take 1) rfl ?_))
  obtain ⟨r19, hx20, hr21⟩ := bd_some hx17
  refine clS C72 J J J J (fun w H hH le => w72 p_0.volume 1 999 hx20) (m1 rfl ?_)
  rcases Bool.eq_false_or_eq_true (r19) with hb22 | hb22
  ·have hr23 := if_p hb22 hr21
   refine gN J J (hb22) (fb 1 U81 J J J J Z3 (gN J J (hb22) (ld G3 J J (((sS 0 rfl hK3).drop 1).take 1) rfl (gN J J (hb22) (fb 2 U81 J J J J Z3 (gN J J (hb22) (ld G3 J J ((sS 0 rfl hK3).drop 2) rfl (gN J J (hb22) ?_))))))))
   obtain ⟨r24, hx25, hr26⟩ := bd_some hr23
   refine clS C72 J J J J (fun w H hH le => w72 p_0.from_ 1 p_0.to_ hx25) (pT J J (hb22) rfl (m1 rfl ?_))
   rcases Bool.eq_false_or_eq_true (r24) with hb27 | hb27
   ·have hr28 := if_p hb27 hr26
    refine gN J J (hb27) (fb 2 U81 J J J J Z3 (gN J J (hb27) (ld G3 J J ((sS 0 rfl hK3).drop 2) rfl (gN J J (hb27) (leI J J J (pT J J (hb27) rfl (a1 rfl (on ?_))))))))
    cases hr28
    exact cu ⟨rfl, tv⟩
   ·have hr29 := if_f hb27 hr26
    refine gF J J (hb27) rfl (gF J J (hb27) rfl (gF J J (hb27) rfl (pF J J (hb27) rfl (a1 rfl (on ?_)))))
    cases hr29
    exact cu ⟨rfl, tv⟩
  ·have hr30 := if_f hb22 hr21
   refine gF J J (hb22) rfl (gF J J (hb22) rfl (gF J J (hb22) rfl (gF J J (hb22) rfl (gF J J (hb22) rfl (pF J J (hb22) rfl (m1 rfl (gF J J J J (gF J J J J (gF J J J J (pF J J J J (a1 rfl ?_)))))))))))
   refine on ?_
   cases hr30
   exact cu ⟨rfl, tv⟩
 ·rintro a w ⟨hS, hA⟩
  refine TG.ap ?_ hS hA
  refine rt_ ?_
  cases hr18
  intro a w hS hA
  refine ret1 hA J J ?_
  exact ⟨rfl, hS.ext⟩

theorem w121 {M : Prop} {W : World} {H : Hp} (hH : H.le (hp W)) {ad_l_0 : Option Addr} {cap_l_0 : Nat} {l_0 : List Place} (h_l_0 : Sl (Flat encPlace) 3 H ad_l_0 cap_l_0 l_0) {fv_before : Value} {before : Place → Place → Option Bool} (h_before : FnV M Tryz.prog H fv_before (SF2 (Va encPlace) (Va encPlace) Value.bool before)) {r : Bool} (hr : m121 l_0 before = some r) : Calls Tryz.prog 121 [.slice ad_l_0 l_0.length cap_l_0, fv_before].toArray W (RetS M W (.bool r)) := by
 have := h_l_0.len
 have hh_before := h_before
 obtain ⟨f_before, fi_before, ca_before, rfl, _, _⟩ := h_before
 unfold m121 at hr
 refine enterG (M := M) Tryz.func121 rfl Tryz.ntmps121 rfl hH ?_
 refine sq (rg (a1 rfl (on (sq (sq (rg (m1 rfl (lnL U62 J J (m1 rfl (on ?_))))))))))
 obtain ⟨e32, hl33, hr34⟩ := bd_some hr
 refine jn (fun a w => ∃ t35, e32 = .inl t35 ∧ St M W H [H] [] w ∧ Has [] 28 a []) ?_ ?_
 ·refine bk ?_
  refine lp hl33 (fun s36 a w => St M W H [H] [] w ∧ Has [] 28 a [(0, .slice ad_l_0 l_0.length cap_l_0), (1, .func (.func f_before) fi_before.toArray ca_before.toArray), (7, .int .i64 (l_0.length : Int)), (8, .int .i64 (s36 : Int))]) ?_ ?_
  ·exact cu ⟨rfl, rfl, rfl, rfl, tv⟩
  ·rintro j s36 y39 hr37 hz38 a w ⟨hS, hA⟩
   refine TG.ap ?_ hS hA
   unfold m121_1 at hr37
   refine sq (rg (ltI J J J (on (sq ?_))))
   refine ci rfl (fun hc43 => ?_) (fun hc43 => ?_)
   ·have hr44 := if_p hc43 hr37
    refine sk (sq (bk (sq (rg (m1 rfl (a1 rfl (on (sq ?_))))))))
    obtain ⟨t95, hx96, hr97⟩ := bd_some hr44
    refine jn (fun a w => St M W H [H] [] w ∧ Has [] 28 a [(0, .slice ad_l_0 l_0.length cap_l_0), (1, .func (.func f_before) fi_before.toArray ca_before.toArray), (7, .int .i64 (l_0.length : Int)), (8, .int .i64 (s36 : Int)), (26, .bool t95)]) ?_ ?_
    ·by_cases hb98 : 0 < (s36 : Int)
     ·have hr99 := if_p hb98 hx96
      obtain ⟨x100, hx101, hr102⟩ := bd_some hr99
      obtain ⟨p103, rfl⟩ := h_l_0.adr hx101
      obtain ⟨cs104, hcs105, hq106, hr107⟩ := h_l_0.at hx101
      obtain rfl := hr107
      obtain ⟨x108, hx109, hr110⟩ := bd_some hr102
      obtain ⟨cs111, hcs112, hq113, hr114⟩ := h_l_0.at hx109
      obtain rfl := hr114
      refine drG 13 mixed (by kernel_rfl) rfl (dt rfl (m1 rfl fin1) (dt rfl (gtI J J J fin1) (dt rfl (m1 rfl fin1) (dt rfl (gt hb98 rfl (m1 rfl fin1)) (dt rfl (gt hb98 rfl (m1 rfl fin1)) (dt rfl (gt hb98 rfl (m1 rfl fin1)) (dt rfl (gt hb98 rfl (sbI J J J (by omega) fin1)) (dt rfl (gt hb98 rfl (iaP U62 Z81 J J J (by omega) (lt_of hx101) fin1)) (dt rfl (gt hb98 rfl (ldA G81 Z81 J J (sS 1 rfl hq106) rfl fin1)) (dt rfl (gt hb98 rfl (m1 rfl fin1)) (dt rfl (gt hb98 rfl (m1 rfl fin1)) ?_)))))))))))
      refine dt rfl (gt hb98 rfl (iaP U62 Z81 J J J J (lt_of hx109) fin1)) (dt rfl (gt hb98 rfl (ldA G81 Z81 J J (sS 1 rfl hq113) rfl fin1)) (DF.nil fun K115 hF => (gt hb98 rfl ?_)))
      obtain ⟨r116, hx117, hr118⟩ := bd_some hr110
      refine clV (v := .bool r116) hh_before 1 J J J J (fun H le => ⟨_, _, x100, x108, r116, rfl, rfl, rfl, hx117, rfl⟩) (gt hb98 rfl (nt J J (pt hb98 J J (on ?_))))
      cases hr118
      intro a w hS hA
      exact ⟨hS.selH [1] rfl, hA.cut ⟨rfl, rfl, rfl, rfl, rfl, tv⟩⟩
     ·have hr119 := if_n hb98 hx96
      refine drG 13 mixed (by kernel_rfl) rfl (dt rfl (m1 rfl fin1) (dt rfl (gtI J J J fin1) (dt rfl (m1 rfl fin1) (dt rfl (gf hb98 rfl fin1) (dt rfl (gf hb98 rfl fin1) (dt rfl (gf hb98 rfl fin1) (dt rfl (gf hb98 rfl fin1) (dt rfl (gf hb98 rfl fin1) (dt rfl (gf hb98 rfl fin1) (dt rfl (gf hb98 rfl fin1) (dt rfl (gf hb98 rfl fin1) ?_)))))))))))
      refine dt rfl (gf hb98 rfl fin1) (dt rfl (gf hb98 rfl fin1) (DF.nil fun K120 hF => (gf hb98 rfl (gf hb98 rfl (pf hb98 J J (on ?_))))))
      cases hr119
      intro a w hS hA
      exact ⟨hS.selH [1] rfl, hA.cut ⟨rfl, rfl, rfl, rfl, rfl, tv⟩⟩
    ·rintro a w ⟨hS, hA⟩
     refine TG.ap ?_ hS hA
     refine cb rfl (fun hc124 => ?_) (fun hc124 => ?_)
     ·have hr125 := if_p hc124 hr97
      refine sq (rg (a1 rfl (on (rt_ ?_))))
      cases hr125
      obtain rfl := Fin.out hz38
      cases hr34
      intro a w hS hA
      refine ret1 hA J J ?_
      exact ⟨rfl, hS.ext⟩
     ·have hr126 := if_f hc124 hr97
      refine sk (rg (adI J J J (by omega) (m1 rfl (on ?_))))
      cases hr126
      intro a w hS hA
      exact ⟨_, hz38, hS, hA.cut ⟨rfl, rfl, rfl, rfl, tv⟩⟩
   ·have hr127 := if_n hc43 hr37
    refine xt rfl ?_
    cases hr127
    obtain rfl := Fin.out hz38
    intro a w hS hA
    exact ⟨_, rfl, hS, hA.cut tv⟩
 ·rintro a w ⟨t35, rfl, hS, hA⟩
  apply TG.ap ?_ hS hA
  refine sq (rg (a1 rfl (on (rt_ ?_))))
  cases hr34
  intro a w hS hA
  refine ret1 hA J J ?_
  exact ⟨rfl, hS.ext⟩

theorem w96 {M : Prop} {W : World} {cs_p_0 : List Value} (p_0 : Place) (h_p_0 : (Flat encPlace) (hp W) cs_p_0 p_0) {cs_o_1 : List Value} (o_1 : Place) (h_o_1 : (Flat encPlace) (hp W) cs_o_1 o_1) {r : Bool} (hr : m96 p_0 o_1 = some r) : Calls Tryz.prog 96 [.agg cs_p_0.toArray, .agg cs_o_1.toArray].toArray W (RetS M W (.bool r)) := by
 obtain rfl := h_p_0
 obtain rfl := h_o_1
 unfold m96 at hr
 refine enterG (M := M) Tryz.func96 rfl Tryz.ntmps96 rfl (Hp.le.refl _) ?_
 refine sq (rg (bI (cs := [.int .i64 p_0.volume, .int .i64 p_0.from_, .int .i64 p_0.to_]) J J J fun q1 K2 hK3 => (bI (cs := [.int .i64 o_1.volume, .int .i64 o_1.from_, .int .i64 o_1.to_]) J J J fun q4 K5 hK6 => (a1 rfl (on (sq ?_))))))
 obtain ⟨t15, hx16, hr17⟩ := bd_some hr
 refine jn (fun a w => St M W (hp W) [K5, K2, (hp W)] [] w ∧ Has [] 25 a [(4, .bool t15)]) ?_ ?_
 ·refine rg (fb 0 U81 J J J J Z3 (ld G3 J J ((sS 1 rfl hK3).take 1) rfl (fb 0 U81 J J J J Z3 (ld G3 J J ((sS 0 rfl hK6).take 1) rfl (ltI J J J (m1 rfl ?_))))))
  by_cases hb18 : p_0.volume < o_1.volume
  ·have hr19 := if_p hb18 hx16
   refine gf' hb18 rfl (gf' hb18 rfl (gf' hb18 rfl (gf' hb18 rfl (gf' hb18 rfl (gf' hb18 rfl (gU J J J (gU J J J (gU J J J (gU J J J (gU J J J (gU J J J ?_)))))))))))
   refine gf' hb18 rfl (pt hb18 J J (a1 rfl (on ?_)))
   cases hr19
   exact cu ⟨rfl, tv⟩
  ·have hr20 := if_n hb18 hx16
   refine gt' hb18 rfl (fb 0 U81 J J J J Z3 (gt' hb18 rfl (ld G3 J J ((sS 1 rfl hK3).take 1) rfl (gt' hb18 rfl (fb 0 U81 J J J J Z3 (gt' hb18 rfl (ld G3 J J ((sS 0 rfl hK6).take 1) rfl (gt' hb18 rfl (eqI J J J (gt' hb18 rfl (m1 rfl ?_)))))))))))
   by_cases hb21 : p_0.volume = o_1.volume
   ·have hr22 := if_p hb21 hr20
    refine gt hb21 rfl (fb 2 U81 J J J J Z3 (gt hb21 rfl (ld G3 J J ((sS 1 rfl hK3).drop 2) rfl (gt hb21 rfl ?_))))
    obtain ⟨hk23, hr24⟩ := chk_some hr22
    refine adI J J J hk23 (gt hb21 rfl (fb 1 U81 J J J J Z3 (gt hb21 rfl (ld G3 J J (((sS 0 rfl hK6).drop 1).take 1) rfl (gt hb21 rfl (ltI J J J (gt' hb18 rfl (pt hb21 J J (pf hb18 J J (a1 rfl (on ?_)))))))))))
    cases hr24
    exact cu ⟨rfl, tv⟩
   ·have hr25 := if_n hb21 hr20
    refine gf hb21 rfl (gf hb21 rfl (gf hb21 rfl (gf hb21 rfl (gf hb21 rfl (gf hb21 rfl (gt' hb18 rfl (pf hb21 J J (pf hb18 J J (a1 rfl (on ?_))))))))))
    cases hr25
    exact cu ⟨rfl, tv⟩
 ·rintro a w ⟨hS, hA⟩
  refine TG.ap ?_ hS hA
  refine rt_ ?_
  cases hr17
  intro a w hS hA
  refine ret1 hA J J ?_
  exact ⟨rfl, hS.ext⟩

theorem w78 {M : Prop} {W : World} {H : Hp} (hH : H.le (hp W)) (hg : Gv M H) {cs_h_0 : List Value} (h_0 : Heading) (h_h_0 : (RHeading) H cs_h_0 h_0) {r : Bool} (hr : m78 h_0 = some r) : Calls Tryz.prog 78 [.agg cs_h_0.toArray].toArray W (RetS M W (.bool r)) := by
 have hh_h_0 := h_h_0
 obtain ⟨ad1, cap2, ad4, cap5, ad7, cap8, rfl, hl3, hl6, hl9⟩ := h_h_0
 have := hl3.len
 have := hl6.len
 have := hl9.len
 unfold m78 at hr
 refine enterG (M := M) Tryz.func78 rfl Tryz.ntmps78 rfl hH ?_
 refine sq (rg (bI (cs := [.string (bs h_0.name), .slice ad1 h_0.variants.length cap2, .slice ad4 h_0.also.length cap5, .slice ad7 h_0.places.length cap8]) J J J fun q10 K11 hK12 => (a1 rfl (on (sq (rg (a1 rfl (on (sq ?_)))))))))
 obtain ⟨t45, hx46, hr47⟩ := bd_some hr
 refine jn (fun a w => St M W H [K11, H] [] w ∧ Has [] 35 a [(2, .bool t45)]) ?_ ?_
 ·refine rg (fb 0 U64 J J J J Z9 (ld G9 J J ((sS 0 rfl hK12).take 1) rfl ?_))
  obtain ⟨r48, hx49, hr50⟩ := bd_some hx46
  refine clS C117 J J J J (fun w H hH le => w117 hH (hg.mono (le.at 1 rfl)) h_0.name hx49) (m1 rfl ?_)
  rcases Bool.eq_false_or_eq_true (r48) with hb51 | hb51
  ·have hr52 := if_p hb51 hr50
   refine gN J J (hb51) (m1 rfl (gN J J (hb51) (fb 1 U64 J J J J Z50 (gN J J (hb51) (ld G50 J J (((sS 0 rfl hK12).drop 1).take 1) rfl (gN J J (hb51) ?_))))))
   obtain ⟨r53, hx54, hr55⟩ := bd_some hr52
   refine clS C116 J J J J (fun w H hH le => w116 hH (hg.mono (le.at 1 rfl)) (hl3.mono (Flat.mono _) (le.at 1 rfl)) hx54) (pT J J (hb51) rfl (m1 rfl ?_))
   rcases Bool.eq_false_or_eq_true (r53) with hb56 | hb56
   ·have hr57 := if_p hb56 hr55
    refine gN J J (hb56) (m1 rfl (gN J J (hb56) (fb 2 U64 J J J J Z50 (gN J J (hb56) (ld G50 J J (((sS 0 rfl hK12).drop 2).take 1) rfl (gN J J (hb56) ?_))))))
    obtain ⟨r58, hx59, hr60⟩ := bd_some hr57
    refine clS C116 J J J J (fun w H hH le => w116 hH (hg.mono (le.at 1 rfl)) (hl6.mono (Flat.mono _) (le.at 1 rfl)) hx59) (pT J J (hb56) rfl (m1 rfl ?_))
    rcases Bool.eq_false_or_eq_true (r58) with hb61 | hb61
    ·have hr62 := if_p hb61 hr60
     refine gN J J (hb61) (fb 3 U64 J J J J Z62 (gN J J (hb61) (ld G62 J J ((sS 0 rfl hK12).drop 3) rfl (gN J J (hb61) (lnL U62 J J (gN J J (hb61) (leI J J J (pT J J (hb61) rfl (m1 rfl ?_)))))))))
     by_cases hb63 : (h_0.places.length : Int) ≤ 30
     ·have hr64 := if_p hb63 hr62
      refine gt hb63 rfl (fb 3 U64 J J J J Z62 (gt hb63 rfl (ld G62 J J ((sS 0 rfl hK12).drop 3) rfl (gt hb63 rfl ?_))))
      obtain ⟨r66, hx67, hr68⟩ := bd_some hr64
      refine clS (v := .bool r66) C119 J J J J (fun w H hH le => by
        have hf65 : FnV M Tryz.prog H (.func (.func 120) [].toArray [].toArray) (SF1 (Va encPlace) Value.bool (m120)) := ⟨120, [], [], rfl, C120, fun w_ K_ args_ v_ hK hw hs => by obtain ⟨u0_, x0_, r_, rfl, h0_, hx, rfl⟩ := hs; cases h0_; exact w120  x0_ rfl  hx⟩
        exact w119 hH (hl9.mono (Flat.mono _) (le.at 1 rfl)) (right := (m120)) hf65 hx67) ?_
      refine pt hb63 J J (m1 rfl ?_)
      rcases Bool.eq_false_or_eq_true (r66) with hb69 | hb69
      ·have hr70 := if_p hb69 hr68
       refine gN J J (hb69) (fb 3 U64 J J J J Z62 (gN J J (hb69) (ld G62 J J ((sS 0 rfl hK12).drop 3) rfl (gN J J (hb69) ?_))))
       obtain ⟨r72, hx73, hr74⟩ := bd_some hr70
       refine clS (v := .bool r72) C121 J J J J (fun w H hH le => by
         have hf71 : FnV M Tryz.prog H (.func (.func 96) [].toArray [].toArray) (SF2 (Va encPlace) (Va encPlace) Value.bool (m96)) := ⟨96, [], [], rfl, C96, fun w_ K_ args_ v_ hK hw hs => by obtain ⟨u0_, u1_, x0_, x1_, r_, rfl, h0_, h1_, hx, rfl⟩ := hs; cases h0_; cases h1_; exact w96  x0_ rfl x1_ rfl  hx⟩
         exact w121 hH (hl9.mono (Flat.mono _) (le.at 1 rfl)) (before := (m96)) hf71 hx73) ?_
       refine pT J J (hb69) rfl (a1 rfl (on ?_))
       cases hr74
       exact cu ⟨rfl, tv⟩
      ·have hr75 := if_f hb69 hr68
       refine gF J J (hb69) rfl (gF J J (hb69) rfl (gF J J (hb69) rfl (pF J J (hb69) rfl (a1 rfl (on ?_)))))
       cases hr75
       exact cu ⟨rfl, tv⟩
     ·have hr76 := if_n hb63 hr62
      refine gf hb63 rfl (gf hb63 rfl (gf hb63 rfl (pf hb63 J J (m1 rfl (gF J J J J (gF J J J J (gF J J J J (pF J J J J (a1 rfl (on ?_))))))))))
      cases hr76
      exact cu ⟨rfl, tv⟩
    ·have hr77 := if_f hb61 hr60
     refine gF J J (hb61) rfl (gF J J (hb61) rfl (gF J J (hb61) rfl (gF J J (hb61) rfl (pF J J (hb61) rfl (m1 rfl (gF J J J J (gF J J J J (gF J J J J (pF J J J J (m1 rfl (gF J J J J ?_)))))))))))
     refine gF J J J J (gF J J J J (pF J J J J (a1 rfl (on ?_))))
     cases hr77
     exact cu ⟨rfl, tv⟩
   ·have hr78 := if_f hb56 hr55
    refine gF J J (hb56) rfl (gF J J (hb56) rfl (gF J J (hb56) rfl (gF J J (hb56) rfl (pF J J (hb56) rfl (m1 rfl (gF J J J J (gF J J J J (gF J J J J (gF J J J J (pF J J J J (m1 rfl ?_)))))))))))
    refine gF J J J J (gF J J J J (gF J J J J (pF J J J J (m1 rfl (gF J J J J (gF J J J J (gF J J J J (pF J J J J (a1 rfl (on ?_))))))))))
    cases hr78
    exact cu ⟨rfl, tv⟩
  ·have hr79 := if_f hb51 hr50
   refine gF J J (hb51) rfl (gF J J (hb51) rfl (gF J J (hb51) rfl (gF J J (hb51) rfl (pF J J (hb51) rfl (m1 rfl (gF J J J J (gF J J J J (gF J J J J (gF J J J J (pF J J J J (m1 rfl ?_)))))))))))
   refine gF J J J J (gF J J J J (gF J J J J (gF J J J J (pF J J J J (m1 rfl (gF J J J J (gF J J J J (gF J J J J (pF J J J J (m1 rfl (gF J J J J ?_)))))))))))
   refine gF J J J J (gF J J J J (pF J J J J (a1 rfl (on ?_))))
   cases hr79
   exact cu ⟨rfl, tv⟩
 ·rintro a w ⟨hS, hA⟩
  refine TG.ap ?_ hS hA
  refine rt_ ?_
  cases hr47
  intro a w hS hA
  refine ret1 hA J J ?_
  exact ⟨rfl, hS.ext⟩

theorem w84 {M : Prop} {W : World} {H : Hp} (hH : H.le (hp W)) {fv_yield : Value} {yield : Bytes → Option Bool} (h_yield : FnV M Tryz.prog H fv_yield (SF1 Vs Value.bool yield)) {q_f0_ : Addr} {cs_f0_ : List Value} (f0_ : Heading) (hc_f0_ : CellsAt H q_f0_ cs_f0_) (h_f0_ : (RHeading) H cs_f0_ f0_) {r : Unit} (hr : m84 yield f0_ = some r) : Calls Tryz.prog 84 [fv_yield, .pointer (some q_f0_)].toArray W (RetS M W (.tuple #[])) := by
 have hh_yield := h_yield
 obtain ⟨f_yield, fi_yield, ca_yield, rfl, _, _⟩ := h_yield
 have hh_f0_ := h_f0_
 obtain ⟨ad1, cap2, ad4, cap5, ad7, cap8, rfl, hl3, hl6, hl9⟩ := h_f0_
 have := hl3.len
 have := hl6.len
 have := hl9.len
 unfold m84 at hr
 refine enterG (M := M) Tryz.func84 rfl Tryz.ntmps84 rfl hH ?_
 refine sq (sq (rg (m1 rfl (fb 0 U64 J J J J Z9 (ld G9 J J ((sS 0 rfl hc_f0_).take 1) rfl ?_)))))
 obtain ⟨r10, hx11, hr12⟩ := bd_some hr
 refine clV (v := .bool r10) hh_yield 0 J J J J (fun H le => ⟨_, f0_.name, r10, rfl, rfl, hx11, rfl⟩) (nt J J (on ?_))
 refine cb rfl (fun hc16 => ?_) (fun hc16 => ?_)
 ·replace hc16 := nbt hc16
  have hr17 := if_f hc16 hr12
  refine rt_ ?_
  cases hr17
  intro a w hS hA
  refine ret0 hA rfl ?_
  exact ⟨rfl, hS.ext⟩
 ·replace hc16 := nbf hc16
  have hr18 := if_p hc16 hr12
  refine sk (sq (rg (fb 1 U64 J J J J Z50 (ld G50 J J (((sS 0 rfl hc_f0_).drop 1).take 1) rfl (lnL U50 J J (m1 rfl (on ?_)))))))
  obtain ⟨e37, hl38, hr39⟩ := bd_some hr18
  refine jn (fun a w => ∃ t40, e37 = .inl t40 ∧ St M W H [H] [] w ∧ Has [] 22 a []) ?_ ?_
  ·refine bk ?_
   refine lp hl38 (fun s41 a w => St M W H [H] [] w ∧ Has [] 22 a [(0, .func (.func f_yield) fi_yield.toArray ca_yield.toArray), (11, .slice ad1 f0_.variants.length cap2), (12, .int .i64 (f0_.variants.length : Int)), (13, .int .i64 (s41 : Int))]) ?_ ?_
   ·exact cu ⟨rfl, rfl, rfl, rfl, tv⟩
   ·rintro j s41 y44 hr42 hz43 a w ⟨hS, hA⟩
    refine TG.ap ?_ hS hA
    unfold m84_1 at hr42
    refine sq (rg (ltI J J J (on (sq ?_))))
    refine ci rfl (fun hc48 => ?_) (fun hc48 => ?_)
    ·have hr49 := if_p hc48 hr42
     refine sk (sq (bk (sq (rg ?_))))
     obtain ⟨x64, hx65, hr66⟩ := bd_some hr49
     obtain ⟨p67, rfl⟩ := hl3.adr hx65
     obtain ⟨cs68, hcs69, hq70, hr71⟩ := hl3.at hx65
     obtain rfl := hr71
     refine iaP U50 Z9 J J J J (lt_of hx65) (ld G9 J J (sS 0 rfl hq70) rfl (a1 rfl (on (sq (rg (m1 rfl (m1 rfl ?_)))))))
     obtain ⟨r72, hx73, hr74⟩ := bd_some hr66
     refine clV (v := .bool r72) hh_yield 0 J J J J (fun H le => ⟨_, x64, r72, rfl, rfl, hx73, rfl⟩) (nt J J (on ?_))
     refine cb rfl (fun hc78 => ?_) (fun hc78 => ?_)
     ·replace hc78 := nbt hc78
      have hr79 := if_f hc78 hr74
      refine rt_ ?_
      cases hr79
      obtain rfl := Fin.out hz43
      cases hr39
      intro a w hS hA
      refine ret0 hA rfl ?_
      exact ⟨rfl, hS.ext⟩
     ·replace hc78 := nbf hc78
      have hr80 := if_p hc78 hr74
      refine sk (rg (adI J J J (by omega) (m1 rfl (on ?_))))
      cases hr80
      intro a w hS hA
      exact ⟨_, hz43, hS, hA.cut ⟨rfl, rfl, rfl, rfl, tv⟩⟩
    ·have hr81 := if_n hc48 hr42
     refine xt rfl ?_
     cases hr81
     obtain rfl := Fin.out hz43
     intro a w hS hA
     exact ⟨_, rfl, hS, hA.cut tv⟩
  ·rintro a w ⟨t40, rfl, hS, hA⟩
   apply TG.ap ?_ hS hA
   cases hr39
   intro a w hS hA
   refine ret0 hA rfl ?_
   exact ⟨rfl, hS.ext⟩

theorem w81 {M : Prop} {W : World} {H : Hp} (hH : H.le (hp W)) (s_0 : Bytes) {q_f0_ : Addr} {mp_f0_ : Value} {f0_ : List (Bytes × Int)} (hc_f0_ : CellsAt H q_f0_ [mp_f0_]) (h_f0_ : Mp keS (Value.int .i64) H mp_f0_ f0_) {q_f1_ : Addr} {ad_f1_ : Option Addr} {cap_f1_ : Nat} {f1_ : List Heading} (hc_f1_ : CellsAt H q_f1_ [.slice ad_f1_ f1_.length cap_f1_]) (h_f1_ : Sl (RHeading) 4 H ad_f1_ cap_f1_ f1_) {q_f2_ : Addr} {cs_f2_ : List Value} (f2_ : Heading) (hc_f2_ : CellsAt H q_f2_ cs_f2_) (h_f2_ : (RHeading) H cs_f2_ f2_) {r : Bool} (hr : m81 s_0 f0_ f1_ f2_ = some r) : Calls Tryz.prog 81 [.string (bs s_0), .pointer (some q_f0_), .pointer (some q_f1_), .pointer (some q_f2_)].toArray W (RetS M W (.bool r)) := by
 have := h_f1_.len
 have hh_f2_ := h_f2_
 obtain ⟨ad1, cap2, ad4, cap5, ad7, cap8, rfl, hl3, hl6, hl9⟩ := h_f2_
 have := hl3.len
 have := hl6.len
 have := hl9.len
 unfold m81 at hr
 refine enterG (M := M) Tryz.func81 rfl Tryz.ntmps81 rfl hH ?_
 refine sq (rg (a1 rfl (on (sq (rg (ld G87 J J (sS 0 rfl hc_f0_) rfl (m1 rfl (lk2 (ke := keS) (enc := (Value.int .i64)) s_0 (z0 := (0 : Int)) U87 U9 Tryz.zeroValue3 J J J J (mS 0 rfl h_f0_) (m1 rfl (ex J J J (ex J J J ?_)))))))))))
 refine a1 rfl (a1 rfl (on (sq ?_)))
 obtain ⟨t36, hx37, hr38⟩ := bd_some hr
 refine jn (fun a w => St M W H [H] [] w ∧ Has [] 30 a [(5, .bool t36)]) ?_ ?_
 ·refine rg (m1 rfl (m1 rfl ?_))
  rcases Bool.eq_false_or_eq_true ((lkp f0_ s_0).isSome) with hb39 | hb39
  ·have hr40 := if_p hb39 hx37
   refine gN J J (hb39) (ld G26 J J (sS 0 rfl hc_f1_) rfl (gN J J (hb39) (m1 rfl (gN J J (hb39) ?_))))
   obtain ⟨hk41, hr42⟩ := chk_some hr40
   obtain ⟨x43, hx44, hr45⟩ := bd_some hr42
   obtain ⟨p46, rfl⟩ := h_f1_.adr hx44
   obtain ⟨cs47, hcs48, hq49, hr50⟩ := h_f1_.at hx44
   have hr51 := hr50
   obtain ⟨ad52, cap53, ad55, cap56, ad58, cap59, rfl, hl54, hl57, hl60⟩ := hr50
   have := hl54.len
   have := hl57.len
   have := hl60.len
   refine iaP U26 Z64 J J J (by omega) (lt_of hx44) (gN J J (hb39) (fb 0 U64 J J J J Z9 (gN J J (hb39) (ld G9 J J ((sS 0 rfl hq49).take 1) rfl (gN J J (hb39) (m1 rfl (gN J J (hb39) (eqS J J J (pT J J (hb39) rfl (m1 rfl ?_))))))))))
   by_cases hb61 : x43.name = s_0
   ·have hr62 := if_p hb61 hr45
    refine gt hb61 rfl (m1 rfl (gt hb61 rfl (fb 0 U64 J J J J Z9 (gt hb61 rfl (ld G9 J J ((sS 0 rfl hc_f2_).take 1) rfl (gt hb61 rfl (neS J J J (pt hb61 J J (a1 rfl (on ?_))))))))))
    cases hr62
    exact cu ⟨rfl, tv⟩
   ·have hr63 := if_n hb61 hr45
    refine gf hb61 rfl (gf hb61 rfl (gf hb61 rfl (gf hb61 rfl (pf hb61 J J (a1 rfl (on ?_))))))
    cases hr63
    exact cu ⟨rfl, tv⟩
  ·have hr64 := if_f hb39 hx37
   refine gF J J (hb39) rfl (gF J J (hb39) rfl (gF J J (hb39) rfl (gF J J (hb39) rfl (gF J J (hb39) rfl (gF J J (hb39) rfl (gF J J (hb39) rfl (pF J J (hb39) rfl (m1 rfl (gF J J J J (gF J J J J (gF J J J J ?_)))))))))))
   refine gF J J J J (pF J J J J (a1 rfl (on ?_)))
   cases hr64
   exact cu ⟨rfl, tv⟩
 ·rintro a w ⟨hS, hA⟩
  refine TG.ap ?_ hS hA
  refine rt_ ?_
  cases hr38
  intro a w hS hA
  refine ret1 hA J J ?_
  exact ⟨rfl, hS.ext⟩

theorem w79 {M : Prop} {W : World} {H : Hp} (hH : H.le (hp W)) {cs_h_0 : List Value} (h_0 : Heading) (h_h_0 : (RHeading) H cs_h_0 h_0) {q_f0_ : Addr} {mp_f0_ : Value} {f0_ : List (Bytes × Int)} (hc_f0_ : CellsAt H q_f0_ [mp_f0_]) (h_f0_ : Mp keS (Value.int .i64) H mp_f0_ f0_) {q_f1_ : Addr} {ad_f1_ : Option Addr} {cap_f1_ : Nat} {f1_ : List Heading} (hc_f1_ : CellsAt H q_f1_ [.slice ad_f1_ f1_.length cap_f1_]) (h_f1_ : Sl (RHeading) 4 H ad_f1_ cap_f1_ f1_) {r : Bool} (hr : m79 h_0 f0_ f1_ = some r) : Calls Tryz.prog 79 [.agg cs_h_0.toArray, .pointer (some q_f0_), .pointer (some q_f1_)].toArray W (RetS M W (.bool r)) := by
 have hh_h_0 := h_h_0
 obtain ⟨ad1, cap2, ad4, cap5, ad7, cap8, rfl, hl3, hl6, hl9⟩ := h_h_0
 have := hl3.len
 have := hl6.len
 have := hl9.len
 have := h_f1_.len
 unfold m79 at hr
 refine enterG (M := M) Tryz.func79 rfl Tryz.ntmps79 rfl hH ?_
 refine sq (rg (bI (cs := [.string (bs h_0.name), .slice ad1 h_0.variants.length cap2, .slice ad4 h_0.also.length cap5, .slice ad7 h_0.places.length cap8]) J J J fun q10 K11 hK12 => (a1 rfl (on (sq (rg (fb 2 U64 J J J J Z50 (ld G50 J J (((sS 0 rfl hK12).drop 2).take 1) rfl (fn J J J ?_)))))))))
 obtain ⟨r14, hx15, hr16⟩ := bd_some hr
 refine clS (v := .bool r14) C80 J J J J (fun w H hH le => by
   have hf13 : FnV M Tryz.prog H (.func (.func 81) [].toArray [.pointer (some q_f0_), .pointer (some q_f1_), .pointer (some q10)].toArray) (SF1 Vs Value.bool (fun x0_ => m81 x0_ f0_ f1_ h_0)) := ⟨81, [], [.pointer (some q_f0_), .pointer (some q_f1_), .pointer (some q10)], rfl, C81, fun w_ K_ args_ v_ hK hw hs => by obtain ⟨u0_, x0_, r_, rfl, h0_, hx, rfl⟩ := hs; cases h0_; exact w81 (H := K_) hw  x0_ (f0_ := f0_) (hc_f0_.mono ((le.at 1 rfl).trans hK)) (h_f0_.mono ((le.at 1 rfl).trans hK)) (f1_ := f1_) (hc_f1_.mono ((le.at 1 rfl).trans hK)) (h_f1_.mono (RHeading.mono) ((le.at 1 rfl).trans hK)) h_0 (hK12.mono ((le.at 0 rfl).trans hK)) ⟨_, _, _, _, _, _, rfl, (hl3.mono (Flat.mono _) ((le.at 1 rfl).trans hK)), (hl6.mono (Flat.mono _) ((le.at 1 rfl).trans hK)), (hl9.mono (Flat.mono _) ((le.at 1 rfl).trans hK))⟩ hx⟩
   exact w80 hH (hl6.mono (Flat.mono _) (le.at 1 rfl)) (right := (fun x0_ => m81 x0_ f0_ f1_ h_0)) hf13 hx15) ?_
 refine a1 rfl (on (rt_ ?_))
 cases hr16
 intro a w hS hA
 refine ret1 hA J J ?_
 exact ⟨rfl, hS.ext⟩

theorem w82 {M : Prop} {W : World} {H : Hp} (hH : H.le (hp W)) {ad_l_0 : Option Addr} {cap_l_0 : Nat} {l_0 : List Heading} (h_l_0 : Sl (RHeading) 4 H ad_l_0 cap_l_0 l_0) {fv_before : Value} {before : Heading → Heading → Option Bool} (h_before : FnV M Tryz.prog H fv_before (SF2 (Vr RHeading) (Vr RHeading) Value.bool before)) {r : Bool} (hr : m82 l_0 before = some r) : Calls Tryz.prog 82 [.slice ad_l_0 l_0.length cap_l_0, fv_before].toArray W (RetS M W (.bool r)) := by
 have := h_l_0.len
 have hh_before := h_before
 obtain ⟨f_before, fi_before, ca_before, rfl, _, _⟩ := h_before
 unfold m82 at hr
 refine enterG (M := M) Tryz.func82 rfl Tryz.ntmps82 rfl hH ?_
 refine sq (rg (a1 rfl (on (sq (sq (rg (m1 rfl (lnL U26 J J (m1 rfl (on ?_))))))))))
 obtain ⟨e52, hl53, hr54⟩ := bd_some hr
 refine jn (fun a w => ∃ t55, e52 = .inl t55 ∧ St M W H [H] [] w ∧ Has [] 28 a []) ?_ ?_
 ·refine bk ?_
  refine lp hl53 (fun s56 a w => St M W H [H] [] w ∧ Has [] 28 a [(0, .slice ad_l_0 l_0.length cap_l_0), (1, .func (.func f_before) fi_before.toArray ca_before.toArray), (7, .int .i64 (l_0.length : Int)), (8, .int .i64 (s56 : Int))]) ?_ ?_
  ·exact cu ⟨rfl, rfl, rfl, rfl, tv⟩
  ·rintro j s56 y59 hr57 hz58 a w ⟨hS, hA⟩
   refine TG.ap ?_ hS hA
   unfold m82_1 at hr57
   refine sq (rg (ltI J J J (on (sq ?_))))
   refine ci rfl (fun hc63 => ?_) (fun hc63 => ?_)
   ·have hr64 := if_p hc63 hr57
    refine sk (sq (bk (sq (rg (m1 rfl (a1 rfl (on (sq ?_))))))))
    obtain ⟨t155, hx156, hr157⟩ := bd_some hr64
    refine jn (fun a w => St M W H [H] [] w ∧ Has [] 28 a [(0, .slice ad_l_0 l_0.length cap_l_0), (1, .func (.func f_before) fi_before.toArray ca_before.toArray), (7, .int .i64 (l_0.length : Int)), (8, .int .i64 (s56 : Int)), (26, .bool t155)]) ?_ ?_
    ·by_cases hb158 : 0 < (s56 : Int)
     ·have hr159 := if_p hb158 hx156
      obtain ⟨x160, hx161, hr162⟩ := bd_some hr159
      obtain ⟨p163, rfl⟩ := h_l_0.adr hx161
      obtain ⟨cs164, hcs165, hq166, hr167⟩ := h_l_0.at hx161
      have hr168 := hr167
      obtain ⟨ad169, cap170, ad172, cap173, ad175, cap176, rfl, hl171, hl174, hl177⟩ := hr167
      have := hl171.len
      have := hl174.len
      have := hl177.len
      obtain ⟨x178, hx179, hr180⟩ := bd_some hr162
      obtain ⟨cs181, hcs182, hq183, hr184⟩ := h_l_0.at hx179
      have hr185 := hr184
      obtain ⟨ad186, cap187, ad189, cap190, ad192, cap193, rfl, hl188, hl191, hl194⟩ := hr184
      have := hl188.len
      have := hl191.len
      have := hl194.len
      refine drG 13 mixed (by kernel_rfl) rfl (dt rfl (m1 rfl fin1) (dt rfl (gtI J J J fin1) (dt rfl (m1 rfl fin1) (dt rfl (gt hb158 rfl (m1 rfl fin1)) (dt rfl (gt hb158 rfl (m1 rfl fin1)) (dt rfl (gt hb158 rfl (m1 rfl fin1)) (dt rfl (gt hb158 rfl (sbI J J J (by omega) fin1)) (dt rfl (gt hb158 rfl (iaP U26 Z64 J J J (by omega) (lt_of hx161) fin1)) (dt rfl (gt hb158 rfl (ldA G64 Z64 J J (sS 1 rfl hq166) rfl fin1)) (dt rfl (gt hb158 rfl (m1 rfl fin1)) (dt rfl (gt hb158 rfl (m1 rfl fin1)) ?_)))))))))))
      refine dt rfl (gt hb158 rfl (iaP U26 Z64 J J J J (lt_of hx179) fin1)) (dt rfl (gt hb158 rfl (ldA G64 Z64 J J (sS 1 rfl hq183) rfl fin1)) (DF.nil fun K195 hF => (gt hb158 rfl ?_)))
      obtain ⟨r196, hx197, hr198⟩ := bd_some hr180
      refine clV (v := .bool r196) hh_before 1 J J J J (fun H le => ⟨_, _, x160, x178, r196, rfl, ⟨_, rfl, (RHeading.mono _ _ _ _ (le.at 1 rfl) hr168)⟩, ⟨_, rfl, (RHeading.mono _ _ _ _ (le.at 1 rfl) hr185)⟩, hx197, rfl⟩) (gt hb158 rfl (nt J J (pt hb158 J J (on ?_))))
      cases hr198
      intro a w hS hA
      exact ⟨hS.selH [1] rfl, hA.cut ⟨rfl, rfl, rfl, rfl, rfl, tv⟩⟩
     ·have hr199 := if_n hb158 hx156
      refine drG 13 mixed (by kernel_rfl) rfl (dt rfl (m1 rfl fin1) (dt rfl (gtI J J J fin1) (dt rfl (m1 rfl fin1) (dt rfl (gf hb158 rfl fin1) (dt rfl (gf hb158 rfl fin1) (dt rfl (gf hb158 rfl fin1) (dt rfl (gf hb158 rfl fin1) (dt rfl (gf hb158 rfl fin1) (dt rfl (gf hb158 rfl fin1) (dt rfl (gf hb158 rfl fin1) (dt rfl (gf hb158 rfl fin1) ?_)))))))))))
      refine dt rfl (gf hb158 rfl fin1) (dt rfl (gf hb158 rfl fin1) (DF.nil fun K200 hF => (gf hb158 rfl (gf hb158 rfl (pf hb158 J J (on ?_))))))
      cases hr199
      intro a w hS hA
      exact ⟨hS.selH [1] rfl, hA.cut ⟨rfl, rfl, rfl, rfl, rfl, tv⟩⟩
    ·rintro a w ⟨hS, hA⟩
     refine TG.ap ?_ hS hA
     refine cb rfl (fun hc204 => ?_) (fun hc204 => ?_)
     ·have hr205 := if_p hc204 hr157
      refine sq (rg (a1 rfl (on (rt_ ?_))))
      cases hr205
      obtain rfl := Fin.out hz58
      cases hr54
      intro a w hS hA
      refine ret1 hA J J ?_
      exact ⟨rfl, hS.ext⟩
     ·have hr206 := if_f hc204 hr157
      refine sk (rg (adI J J J (by omega) (m1 rfl (on ?_))))
      cases hr206
      intro a w hS hA
      exact ⟨_, hz58, hS, hA.cut ⟨rfl, rfl, rfl, rfl, tv⟩⟩
   ·have hr207 := if_n hc63 hr57
    refine xt rfl ?_
    cases hr207
    obtain rfl := Fin.out hz58
    intro a w hS hA
    exact ⟨_, rfl, hS, hA.cut tv⟩
 ·rintro a w ⟨t55, rfl, hS, hA⟩
  apply TG.ap ?_ hS hA
  refine sq (rg (a1 rfl (on (rt_ ?_))))
  cases hr54
  intro a w hS hA
  refine ret1 hA J J ?_
  exact ⟨rfl, hS.ext⟩

theorem w83 {M : Prop} {W : World} {H : Hp} (hH : H.le (hp W)) {cs_a_0 : List Value} (a_0 : Heading) (h_a_0 : (RHeading) H cs_a_0 a_0) {cs_b_1 : List Value} (b_1 : Heading) (h_b_1 : (RHeading) H cs_b_1 b_1) {r : Bool} (hr : m83 a_0 b_1 = some r) : Calls Tryz.prog 83 [.agg cs_a_0.toArray, .agg cs_b_1.toArray].toArray W (RetS M W (.bool r)) := by
 have hh_a_0 := h_a_0
 obtain ⟨ad1, cap2, ad4, cap5, ad7, cap8, rfl, hl3, hl6, hl9⟩ := h_a_0
 have := hl3.len
 have := hl6.len
 have := hl9.len
 have hh_b_1 := h_b_1
 obtain ⟨ad10, cap11, ad13, cap14, ad16, cap17, rfl, hl12, hl15, hl18⟩ := h_b_1
 have := hl12.len
 have := hl15.len
 have := hl18.len
 unfold m83 at hr
 refine enterG (M := M) Tryz.func83 rfl Tryz.ntmps83 rfl hH ?_
 refine sq (rg (bI (cs := [.string (bs a_0.name), .slice ad1 a_0.variants.length cap2, .slice ad4 a_0.also.length cap5, .slice ad7 a_0.places.length cap8]) J J J fun q19 K20 hK21 => (bI (cs := [.string (bs b_1.name), .slice ad10 b_1.variants.length cap11, .slice ad13 b_1.also.length cap14, .slice ad16 b_1.places.length cap17]) J J J fun q22 K23 hK24 => (a1 rfl (on (sq (rg (fb 0 U64 J J J J Z9 (ld G9 J J ((sS 1 rfl hK21).take 1) rfl (fb 0 U64 J J J J Z9 (ld G9 J J ((sS 0 rfl hK24).take 1) rfl ?_)))))))))))
 obtain ⟨r25, hx26, hr27⟩ := bd_some hr
 refine clS C32 J J J J (fun w H hH le => w32 a_0.name b_1.name hx26) (a1 rfl (on (rt_ ?_)))
 cases hr27
 intro a w hS hA
 refine ret1 hA J J ?_
 exact ⟨rfl, hS.ext⟩

theorem w50 {M : Prop} {W : World} {H : Hp} (hH : H.le (hp W)) (hg : Gv M H) {ad_l_0 : Option Addr} {cap_l_0 : Nat} {l_0 : List Heading} (h_l_0 : Sl (RHeading) 4 H ad_l_0 cap_l_0 l_0) {r : (List (Bytes × Int)) × Int} (hr : m50 l_0 = some r) : Calls Tryz.prog 50 [.slice ad_l_0 l_0.length cap_l_0].toArray W (RetK M H W (fun v K => ∃ (mp0 : Value), v = .tuple [mp0, .int .i64 r.2].toArray ∧ Mp keS (Value.int .i64) K mp0 r.1)) := by
 have := h_l_0.len
 unfold m50 at hr
 refine enterGM (M := M) Tryz.func50 rfl Tryz.ntmps50 rfl hH ?_
 refine sq (rg (bI (cs := [.slice ad_l_0 l_0.length cap_l_0]) J J J fun q1 K2 hK3 => (al 1 (cs := [.map none]) Tryz.zeroValue87 J J fun b4 => (al 2 (cs := [.int .i64 0]) Tryz.zeroValue27 J J fun b5 => (on (sq (bk (sq (rg (ld G26 J J (sS 0 rfl hK3) rfl (lnL U26 J J ?_)))))))))))
 refine gtI J J J (a1 rfl (on ?_))
 refine ci rfl (fun hc26 => ?_) (fun hc26 => ?_)
 ·have hr27 := if_p hc26 hr
  refine sq (rg (sto 1 (cs := [.map none]) Z87 J J J J J J J (sto 2 (cs := [.int .i64 3]) Z27 J J J J J J J (on (rt_ ?_)))))
  cases hr27
  refine rtM (rt0 ?_)
  intro a w hS hA
  refine rc2 hA rfl (ResAt.cell rfl (loads1 G87 (cell_at (hS.get (t := 1) rfl)) rfl)) (ResAt.cell rfl (loads1 G27 (cell_at (hS.get (t := 2) rfl)) rfl)) ?_
  exact ⟨⟨_, rfl, Mp.nil⟩, hS.ext⟩
 ·have hr28 := if_n hc26 hr
  refine sq (rg (ld G26 J J (sS 0 rfl hK3) rfl ?_))
  obtain ⟨r30, hx31, hr32⟩ := bd_some hr28
  refine clS (v := .bool r30) C77 J J J J (fun w H hH le => by
    have hf29 : FnV M Tryz.prog H (.func (.func 78) [].toArray [].toArray) (SF1 (Vr RHeading) Value.bool (m78)) := ⟨78, [], [], rfl, C78, fun w_ K_ args_ v_ hK hw hs => by obtain ⟨u0_, x0_, r_, rfl, h0_, hx, rfl⟩ := hs; obtain ⟨_, rfl, h0_⟩ := h0_; exact w78 (H := K_) hw (hg.mono ((le.at 1 rfl).trans hK))  x0_ h0_  hx⟩
    exact w77 hH (h_l_0.mono (RHeading.mono) (le.at 1 rfl)) (right := (m78)) hf29 hx31) ?_
  refine nt J J (a1 rfl (on ?_))
  refine cb rfl (fun hc36 => ?_) (fun hc36 => ?_)
  ·replace hc36 := nbt hc36
   have hr37 := if_f hc36 hr32
   refine sq (rg (sto 1 (cs := [.map none]) Z87 J J J J J J J (sto 2 (cs := [.int .i64 1]) Z27 J J J J J J J (on (rt_ ?_)))))
   cases hr37
   refine rtM (rt0 ?_)
   intro a w hS hA
   refine rc2 hA rfl (ResAt.cell rfl (loads1 G87 (cell_at (hS.get (t := 1) rfl)) rfl)) (ResAt.cell rfl (loads1 G27 (cell_at (hS.get (t := 2) rfl)) rfl)) ?_
   exact ⟨⟨_, rfl, Mp.nil⟩, hS.ext⟩
  ·replace hc36 := nbf hc36
   have hr38 := if_p hc36 hr32
   refine sk (sq (rg (mkM 3 keS (Value.int .i64) rfl fun b39 => (al 4 (cs := [.map none]) Tryz.zeroValue87 J J fun b40 => (sto 4 (cs := [.map (some b39)]) Z87 J J J J J J J (on (sq (sq (rg (ld G26 J J (sS 0 rfl hK3) rfl (lnL U26 J J ?_)))))))))))
   refine m1 rfl (on ?_)
   obtain ⟨e218, hl219, hr220⟩ := bd_some hr38
   refine jn (fun a w => ∃ t221, e218 = .inl t221 ∧ ∃ (bs222 : List Nat), St M W H [K2, H] ([(4, cel b40 87 [.map (some b39)]), (3, Own.map' keS (Value.int .i64) b39 t221), (2, cel b5 27 [.int .i64 0]), (1, cel b4 87 [.map none])] ++ MK bs222) w ∧ Has (bs222.map mk1) 52 a [(1, .pointer (some q1)), (2, .pointer (some (⟨b4, 0, none⟩))), (3, .pointer (some (⟨b5, 0, none⟩))), (4, .pointer (some (⟨b40, 0, none⟩)))]) ?_ ?_
   ·refine bk ?_
    refine lp hl219 (fun s223 a w => ∃ (bs224 : List Nat), St M W H [K2, H] ([(4, cel b40 87 [.map (some b39)]), (3, Own.map' keS (Value.int .i64) b39 s223.2), (2, cel b5 27 [.int .i64 0]), (1, cel b4 87 [.map none])] ++ MK bs224) w ∧ Has (bs224.map mk1) 52 a [(1, .pointer (some q1)), (2, .pointer (some (⟨b4, 0, none⟩))), (3, .pointer (some (⟨b5, 0, none⟩))), (4, .pointer (some (⟨b40, 0, none⟩))), (20, .slice ad_l_0 l_0.length cap_l_0), (21, .int .i64 (l_0.length : Int)), (22, .int .i64 (s223.1 : Int))]) ?_ ?_
    ·intro a w hS hA
     exact ⟨[], hS, hA.cut ⟨rfl, rfl, rfl, rfl, rfl, rfl, rfl, tv⟩⟩
    ·rintro j s223 y227 hr225 hz226 a w ⟨bs224, hS, hA⟩
     refine TG.ap ?_ hS hA
     unfold m50_1 at hr225
     refine sq (rg (ltI J J J (on (sq ?_))))
     refine ci rfl (fun hc231 => ?_) (fun hc231 => ?_)
     ·have hr232 := if_p hc231 hr225
      refine sk (sq (bk (sq (rg (m1 rfl ?_)))))
      obtain ⟨x316, hx317, hr318⟩ := bd_some hr232
      obtain ⟨p319, rfl⟩ := h_l_0.adr hx317
      obtain ⟨cs320, hcs321, hq322, hr323⟩ := h_l_0.at hx317
      have hr324 := hr323
      obtain ⟨ad325, cap326, ad328, cap329, ad331, cap332, rfl, hl327, hl330, hl333⟩ := hr323
      have := hl327.len
      have := hl330.len
      have := hl333.len
      refine iaP U26 Z64 J J J J (lt_of hx317) (ldA G64 Z64 J J (sS 1 rfl hq322) rfl (al 5 (cs := [.int .i64 0]) Tryz.zeroValue3 J J fun b334 => (al 6 (cs := [.string (bs []), .slice none 0 0, .slice none 0 0, .slice none 0 0]) Tryz.zeroValue64 J J fun b335 => (sto 5 (cs := [.int .i64 (s223.1 : Int)]) Z3 J J J J J J J (sto 6 (cs := [.string (bs x316.name), .slice ad325 x316.variants.length cap326, .slice ad328 x316.also.length cap329, .slice ad331 x316.places.length cap332]) Z64 J J J J J J J (on (sq (rg (ldA G64 Z64 J J (sO 6 rfl) rfl (clT C51 Tryz.func51 rfl Tryz.ntmps51 J J J J (sq ?_)))))))))))
      refine rg (bI (cs := [.string (bs x316.name), .slice ad325 x316.variants.length cap326, .slice ad328 x316.also.length cap329, .slice ad331 x316.places.length cap332]) J J J fun q339 K340 hK341 => (a1 rfl (on (sq (rg (fn J J J (a1 rfl (on (rt_ ?_)))))))))
      intro a w hS hA
      refine ret1 hA J J ?_
      refine ⟨_, rfl, fun a hA => ?_⟩
      refine putK rfl hA hS (on (bk ?_))
      obtain ⟨t457, hx458, hr459⟩ := bd_some hr318
      refine rfO 7 8 C84 Tryz.func84 rfl Tryz.ntmps84 J J (fun l402 dB403 O405 w => (∃ (t460 : Nat × (List (Bytes × Int))), t457 = (.inl t460) ∧ St M W H [K340, K2, H] ([(7, Own.blk l402 (O405 .done (some .ret))), (8, Own.blk dB403 (.deferred (some []))), (6, cel b335 64 [.string (bs x316.name), .slice ad325 x316.variants.length cap326, .slice ad328 x316.also.length cap329, .slice ad331 x316.places.length cap332]), (5, cel b334 3 [.int .i64 (s223.1 : Int)]), (4, cel b40 87 [.map (some b39)]), (3, Own.map' keS (Value.int .i64) b39 t460.2), (2, cel b5 27 [.int .i64 (t460.1 : Int)]), (1, cel b4 87 [.map none])] ++ MK bs224) w) ∨ (∃ (t461 : (List (Bytes × Int))), t457 = (.inr t461) ∧ St M W H [K340, K2, H] ([(7, Own.blk l402 (O405 .ready none)), (8, Own.blk dB403 (.deferred (some []))), (6, cel b335 64 [.string (bs x316.name), .slice ad325 x316.variants.length cap326, .slice ad328 x316.also.length cap329, .slice ad331 x316.places.length cap332]), (5, cel b334 3 [.int .i64 (s223.1 : Int)]), (4, cel b40 87 [.map (some b39)]), (3, Own.map' keS (Value.int .i64) b39 t461), (2, cel b5 27 [.int .i64 0]), (1, cel b4 87 [.map none])] ++ MK bs224) w)) ?_ ?_
      ·intro l402 dB403 O405 tm404 hT406 hO407
       refine sq (sq (rg (m1 rfl (fb 0 U64 J J J J Z9 (ld G9 J J ((sS 0 rfl hK341).take 1) rfl ?_)))))
       obtain ⟨t465, hx466, hr467⟩ := bd_some hx458
       refine yl 7 [] (L1 := (29, .string (bs x316.name)) :: _) J J J hT406 hO407 J J J (fun v w => (∃ (t468 : Nat), t465 = (.inl t468) ∧ v = .bool false ∧ St M W H [K340, K2, H] ([(7, Own.blk l402 (O405 .done (some .ret))), (8, Own.blk dB403 (.deferred (some []))), (6, cel b335 64 [.string (bs x316.name), .slice ad325 x316.variants.length cap326, .slice ad328 x316.also.length cap329, .slice ad331 x316.places.length cap332]), (5, cel b334 3 [.int .i64 (s223.1 : Int)]), (4, cel b40 87 [.map (some b39)]), (3, Own.map' keS (Value.int .i64) b39 s223.2), (2, cel b5 27 [.int .i64 (t468 : Int)]), (1, cel b4 87 [.map none])] ++ MK bs224) w) ∨ (∃ (t469 : (List (Bytes × Int))), t465 = (.inr t469) ∧ v = .bool true ∧ St M W H [K340, K2, H] ([(7, Own.blk l402 (O405 .ready none)), (8, Own.blk dB403 (.deferred (some []))), (6, cel b335 64 [.string (bs x316.name), .slice ad325 x316.variants.length cap326, .slice ad328 x316.also.length cap329, .slice ad331 x316.places.length cap332]), (5, cel b334 3 [.int .i64 (s223.1 : Int)]), (4, cel b40 87 [.map (some b39)]), (3, Own.map' keS (Value.int .i64) b39 t469), (2, cel b5 27 [.int .i64 0]), (1, cel b4 87 [.map none])] ++ MK bs224) w)) ?_ ?_
       ·refine rg (a1 rfl (on (bR 7 hO407 rfl (bk (sq (sq (rg (ld G87 J J (sO 4 rfl) rfl (m1 rfl (lk2 (ke := keS) (enc := (Value.int .i64)) x316.name (z0 := (0 : Int)) U87 U9 Tryz.zeroValue3 J J J J (mO 3 rfl) (m1 rfl ?_)))))))))))
        refine ex J J J (ex J J J (a1 rfl (a1 rfl (on (sq (rg (m1 rfl (on ?_))))))))
        refine cb rfl (fun hc476 => ?_) (fun hc476 => ?_)
        ·have hr477 := if_p hc476 hx466
         refine sq (rg (sto 1 (cs := [.map none]) Z87 J J J J J J J (sto 2 (cs := [.int .i64 6]) Z27 J J J J J J J (on (rt_ ?_)))))
         cases hr477
         refine eR 7 (some .ret) hO407 rfl fun w hS => ?_
         exact .inl ⟨_, rfl, rfl, hS⟩
        ·have hr478 := if_f hc476 hx466
         refine sk (rg (ld G87 J J (sO 4 rfl) rfl (m1 rfl (ld G3 J J (sO 5 rfl) rfl (mpU 3 (ke := keS) (enc := (Value.int .i64)) x316.name (s223.1 : Int) U87 U9 J J J J (on ?_))))))
         cases hr478
         refine eR 7 none hO407 rfl fun w hS => ?_
         exact .inr (⟨_, rfl, rfl, hS⟩)
       ·rintro a w v hA (⟨t468, rfl, rfl, hS⟩ | ⟨t469, rfl, rfl, hS⟩)
        ·refine putK rfl hA hS (nt J J (on (cT J J (rt_ ?_))))
         cases hr467
         intro a w hS hA
         refine ret0 hA rfl ?_
         exact ⟨_, rfl, .inl ⟨_, rfl, hS⟩⟩
        ·refine putK rfl hA hS (nt J J (on (cF J J (sk (sq (rg (fb 1 U64 J J J J Z50 (ld G50 J J (((sS 0 rfl hK341).drop 1).take 1) rfl (lnL U50 J J (m1 rfl (on ?_)))))))))))
         obtain ⟨e519, hl520, hr521⟩ := bd_some hr467
         refine jn (fun a w => ∃ t522, e519 = .inl t522 ∧ St M W H [K340, K2, H] ([(7, Own.blk l402 (O405 .ready none)), (8, Own.blk dB403 (.deferred (some []))), (6, cel b335 64 [.string (bs x316.name), .slice ad325 x316.variants.length cap326, .slice ad328 x316.also.length cap329, .slice ad331 x316.places.length cap332]), (5, cel b334 3 [.int .i64 (s223.1 : Int)]), (4, cel b40 87 [.map (some b39)]), (3, Own.map' keS (Value.int .i64) b39 t522), (2, cel b5 27 [.int .i64 0]), (1, cel b4 87 [.map none])] ++ MK bs224) w ∧ Has [] 22 a []) ?_ ?_
         ·refine bk ?_
          refine lp hl520 (fun s523 a w => St M W H [K340, K2, H] ([(7, Own.blk l402 (O405 .ready none)), (8, Own.blk dB403 (.deferred (some []))), (6, cel b335 64 [.string (bs x316.name), .slice ad325 x316.variants.length cap326, .slice ad328 x316.also.length cap329, .slice ad331 x316.places.length cap332]), (5, cel b334 3 [.int .i64 (s223.1 : Int)]), (4, cel b40 87 [.map (some b39)]), (3, Own.map' keS (Value.int .i64) b39 s523.2), (2, cel b5 27 [.int .i64 0]), (1, cel b4 87 [.map none])] ++ MK bs224) w ∧ Has [] 22 a [(0, .func (.yield l402) #[] #[]), (11, .slice ad325 x316.variants.length cap326), (12, .int .i64 (x316.variants.length : Int)), (13, .int .i64 (s523.1 : Int))]) ?_ ?_
          ·exact cu ⟨rfl, rfl, rfl, rfl, tv⟩
          ·rintro j s523 y526 hr524 hz525 a w ⟨hS, hA⟩
           refine TG.ap ?_ hS hA
           unfold m50_2 at hr524
           refine sq (rg (ltI J J J (on (sq ?_))))
           refine ci rfl (fun hc530 => ?_) (fun hc530 => ?_)
           ·have hr531 := if_p hc530 hr524
            refine sk (sq (bk (sq (rg ?_))))
            obtain ⟨x548, hx549, hr550⟩ := bd_some hr531
            obtain ⟨p551, rfl⟩ := hl327.adr hx549
            obtain ⟨cs552, hcs553, hq554, hr555⟩ := hl327.at hx549
            obtain rfl := hr555
            refine iaP U50 Z9 J J J J (lt_of hx549) (ld G9 J J (sS 2 rfl hq554) rfl (a1 rfl (on (sq (rg (m1 rfl (m1 rfl ?_)))))))
            obtain ⟨t559, hx560, hr561⟩ := bd_some hr550
            refine yl 7 [] (L1 := (29, .string (bs x548)) :: _) J J J hT406 hO407 J J J (fun v w => (∃ (t562 : Nat), t559 = (.inl t562) ∧ v = .bool false ∧ St M W H [K340, K2, H] ([(7, Own.blk l402 (O405 .done (some .ret))), (8, Own.blk dB403 (.deferred (some []))), (6, cel b335 64 [.string (bs x316.name), .slice (some p551) x316.variants.length cap326, .slice ad328 x316.also.length cap329, .slice ad331 x316.places.length cap332]), (5, cel b334 3 [.int .i64 (s223.1 : Int)]), (4, cel b40 87 [.map (some b39)]), (3, Own.map' keS (Value.int .i64) b39 s523.2), (2, cel b5 27 [.int .i64 (t562 : Int)]), (1, cel b4 87 [.map none])] ++ MK bs224) w) ∨ (∃ (t563 : (List (Bytes × Int))), t559 = (.inr t563) ∧ v = .bool true ∧ St M W H [K340, K2, H] ([(7, Own.blk l402 (O405 .ready none)), (8, Own.blk dB403 (.deferred (some []))), (6, cel b335 64 [.string (bs x316.name), .slice (some p551) x316.variants.length cap326, .slice ad328 x316.also.length cap329, .slice ad331 x316.places.length cap332]), (5, cel b334 3 [.int .i64 (s223.1 : Int)]), (4, cel b40 87 [.map (some b39)]), (3, Own.map' keS (Value.int .i64) b39 t563), (2, cel b5 27 [.int .i64 0]), (1, cel b4 87 [.map none])] ++ MK bs224) w)) ?_ ?_
            ·refine rg (a1 rfl (on (bR 7 hO407 rfl (bk (sq (sq (rg (ld G87 J J (sO 4 rfl) rfl (m1 rfl (lk2 (ke := keS) (enc := (Value.int .i64)) x548 (z0 := (0 : Int)) U87 U9 Tryz.zeroValue3 J J J J (mO 3 rfl) (m1 rfl ?_)))))))))))
             refine ex J J J (ex J J J (a1 rfl (a1 rfl (on (sq (rg (m1 rfl (on ?_))))))))
             refine cb rfl (fun hc570 => ?_) (fun hc570 => ?_)
             ·have hr571 := if_p hc570 hx560
              refine sq (rg (sto 1 (cs := [.map none]) Z87 J J J J J J J (sto 2 (cs := [.int .i64 6]) Z27 J J J J J J J (on (rt_ ?_)))))
              cases hr571
              refine eR 7 (some .ret) hO407 rfl fun w hS => ?_
              exact .inl ⟨_, rfl, rfl, hS⟩
             ·have hr572 := if_f hc570 hx560
              refine sk (rg (ld G87 J J (sO 4 rfl) rfl (m1 rfl (ld G3 J J (sO 5 rfl) rfl (mpU 3 (ke := keS) (enc := (Value.int .i64)) x548 (s223.1 : Int) U87 U9 J J J J (on ?_))))))
              cases hr572
              refine eR 7 none hO407 rfl fun w hS => ?_
              exact .inr (⟨_, rfl, rfl, hS⟩)
            ·rintro a w v hA (⟨t562, rfl, rfl, hS⟩ | ⟨t563, rfl, rfl, hS⟩)
             ·refine putK rfl hA hS (nt J J (on (cT J J (rt_ ?_))))
              cases hr561
              obtain rfl := Fin.out hz525
              cases hr521
              intro a w hS hA
              refine ret0 hA rfl ?_
              exact ⟨_, rfl, .inl ⟨_, rfl, hS⟩⟩
             ·refine putK rfl hA hS (nt J J (on (cF J J (sk (rg (adI J J J (by omega) (m1 rfl (on ?_))))))))
              cases hr561
              intro a w hS hA
              exact ⟨_, hz525, hS, hA.cut ⟨rfl, rfl, rfl, rfl, tv⟩⟩
           ·have hr573 := if_n hc530 hr524
            refine xt rfl ?_
            cases hr573
            obtain rfl := Fin.out hz525
            intro a w hS hA
            exact ⟨_, rfl, hS, hA.cut tv⟩
         ·rintro a w ⟨t522, rfl, hS, hA⟩
          apply TG.ap ?_ hS hA
          cases hr521
          intro a w hS hA
          refine ret0 hA rfl ?_
          exact ⟨_, rfl, .inr (⟨_, rfl, hS⟩)⟩
      ·rintro l402 dB403 O405 tm404 a w hO407 hA (⟨t460, rfl, hS⟩ | ⟨t461, rfl, hS⟩)
       ·refine TG.ap ?_ hS hA
        refine elC 7 hO407 rfl (rt_ ?_)
        cases hr459
        obtain rfl := Fin.out hz226
        cases hr220
        refine TG.absM (A := [(8, Own.blk dB403 (.deferred (some []))), (6, cel b335 64 [.string (bs x316.name), .slice ad325 x316.variants.length cap326, .slice ad328 x316.also.length cap329, .slice ad331 x316.places.length cap332]), (5, cel b334 3 [.int .i64 (s223.1 : Int)]), (4, cel b40 87 [.map (some b39)]), (3, Own.map' keS (Value.int .i64) b39 t460.2), (2, cel b5 27 [.int .i64 (t460.1 : Int)]), (1, cel b4 87 [.map none])]) (bs := bs224) 8 J J (rtM (rtMs (A := [(6, cel b335 64 [.string (bs x316.name), .slice ad325 x316.variants.length cap326, .slice ad328 x316.also.length cap329, .slice ad331 x316.places.length cap332]), (5, cel b334 3 [.int .i64 (s223.1 : Int)]), (4, cel b40 87 [.map (some b39)]), (3, Own.map' keS (Value.int .i64) b39 t460.2), (2, cel b5 27 [.int .i64 (t460.1 : Int)]), (1, cel b4 87 [.map none])]) (bs := (dB403 :: bs224)) (rt0 ?_)))
        intro a w hS hA
        refine rc2 hA rfl (ResAt.cell rfl (loads1 G87 (cell_at (hS.get (t := 1) rfl)) rfl)) (ResAt.cell rfl (loads1 G27 (cell_at (hS.get (t := 2) rfl)) rfl)) ?_
        exact ⟨⟨_, rfl, Mp.nil⟩, hS.ext⟩
       ·refine TG.ap ?_ hS hA
        refine elN 7 hO407 rfl (rg (adI J J J (by omega) (m1 rfl (on (TG.absM (A := [(8, Own.blk dB403 (.deferred (some []))), (6, cel b335 64 [.string (bs x316.name), .slice ad325 x316.variants.length cap326, .slice ad328 x316.also.length cap329, .slice ad331 x316.places.length cap332]), (5, cel b334 3 [.int .i64 (s223.1 : Int)]), (4, cel b40 87 [.map (some b39)]), (3, Own.map' keS (Value.int .i64) b39 t461), (2, cel b5 27 [.int .i64 0]), (1, cel b4 87 [.map none])]) (bs := bs224) 8 J J (TG.del 6 (TG.del 5 ?_)))))))
        cases hr459
        intro a w hS hA
        exact ⟨_, hz226, (dB403 :: bs224), hS.selH [1, 2] rfl, hA.cut ⟨rfl, rfl, rfl, rfl, rfl, rfl, rfl, tv⟩⟩
     ·have hr574 := if_n hc231 hr225
      refine xt rfl ?_
      cases hr574
      obtain rfl := Fin.out hz226
      intro a w hS hA
      exact ⟨_, rfl, bs224, hS, hA.cut ⟨rfl, rfl, rfl, rfl, tv⟩⟩
   ·rintro a w ⟨t221, rfl, bs222, hS, hA⟩
    apply TG.ap ?_ hS hA
    refine sq (rg (fn J J J (a1 rfl (on (sq (sq ?_))))))
    obtain ⟨t586, hx587, hr588⟩ := bd_some hr220
    refine jn (fun a w => St M W H [K2, H] ([(4, cel b40 87 [.map (some b39)]), (3, Own.map' keS (Value.int .i64) b39 t221), (2, cel b5 27 [.int .i64 0]), (1, cel b4 87 [.map none])] ++ MK bs222) w ∧ Has (bs222.map mk1) 52 a [(2, .pointer (some (⟨b4, 0, none⟩))), (3, .pointer (some (⟨b5, 0, none⟩))), (4, .pointer (some (⟨b40, 0, none⟩))), (50, .bool t586)]) ?_ ?_
    ·refine rg (ld G26 J J (sS 0 rfl hK3) rfl (m1 rfl ?_))
     obtain ⟨r590, hx591, hr592⟩ := bd_some hx587
     refine clL (v := .bool r590) C77 J J J J (fun w hS => by
       have hf589 : FnV M Tryz.prog (hp w) (.func (.func 79) [].toArray [.pointer (some (⟨b40, 0, none⟩)), .pointer (some q1)].toArray) (SF1 (Vr RHeading) Value.bool (fun x0_ => m79 x0_ t221 l_0)) := ⟨79, [], [.pointer (some (⟨b40, 0, none⟩)), .pointer (some q1)], rfl, C79, fun w_ K_ args_ v_ hK hw hs => by obtain ⟨u0_, x0_, r_, rfl, h0_, hx, rfl⟩ := hs; obtain ⟨_, rfl, h0_⟩ := h0_; exact w79 (H := K_) hw  x0_ h0_ (f0_ := t221) ((cell_at (hS.get (t := 4) rfl)).mono hK) (Mp.mono (.inl ⟨_, rfl, hS.get (t := 3) rfl⟩) hK) (f1_ := l_0) (hK3.mono ((hS.hp 0 rfl).trans hK)) (h_l_0.mono (RHeading.mono) ((hS.hp 1 rfl).trans hK)) hx⟩
       exact w77 (Hp.le.refl (hp w)) (h_l_0.mono (RHeading.mono) (hS.hp 1 rfl)) (right := (fun x0_ => m79 x0_ t221 l_0)) hf589 hx591) ?_
     refine nt J J (m1 rfl ?_)
     rcases Bool.eq_false_or_eq_true (r590) with hb593 | hb593
     ·have hr594 := if_p hb593 hr592
      refine gN J J (congrArg not (hb593)) (ld G26 J J (sS 0 rfl hK3) rfl (gN J J (congrArg not (hb593)) ?_))
      obtain ⟨r596, hx597, hr598⟩ := bd_some hr594
      refine clS (v := .bool r596) C82 J J J J (fun w H hH le => by
        have hf595 : FnV M Tryz.prog H (.func (.func 83) [].toArray [].toArray) (SF2 (Vr RHeading) (Vr RHeading) Value.bool (m83)) := ⟨83, [], [], rfl, C83, fun w_ K_ args_ v_ hK hw hs => by obtain ⟨u0_, u1_, x0_, x1_, r_, rfl, h0_, h1_, hx, rfl⟩ := hs; obtain ⟨_, rfl, h0_⟩ := h0_; obtain ⟨_, rfl, h1_⟩ := h1_; exact w83 (H := K_) hw  x0_ h0_ x1_ h1_  hx⟩
        exact w82 hH (h_l_0.mono (RHeading.mono) (le.at 1 rfl)) (before := (m83)) hf595 hx597) ?_
      refine gN J J (congrArg not (hb593)) (nt J J (pF J J (congrArg not (hb593)) rfl (on ?_)))
      cases hr598
      exact cu ⟨rfl, rfl, rfl, rfl, tv⟩
     ·have hr599 := if_f hb593 hr592
      refine gF J J (congrArg not (hb593)) rfl (gF J J (congrArg not (hb593)) rfl (gF J J (congrArg not (hb593)) rfl (pT J J (congrArg not (hb593)) rfl (on ?_))))
      cases hr599
      exact cu ⟨rfl, rfl, rfl, rfl, tv⟩
    ·rintro a w ⟨hS, hA⟩
     refine TG.ap ?_ hS hA
     refine cb rfl (fun hc603 => ?_) (fun hc603 => ?_)
     ·have hr604 := if_p hc603 hr588
      refine sq (rg (sto 1 (cs := [.map none]) Z87 J J J J J J J (sto 2 (cs := [.int .i64 1]) Z27 J J J J J J J (on (rt_ ?_)))))
      cases hr604
      refine rtM (rtMs (A := [(4, cel b40 87 [.map (some b39)]), (3, Own.map' keS (Value.int .i64) b39 t221), (2, cel b5 27 [.int .i64 1]), (1, cel b4 87 [.map none])]) (bs := bs222) (rt0 ?_))
      intro a w hS hA
      refine rc2 hA rfl (ResAt.cell rfl (loads1 G87 (cell_at (hS.get (t := 1) rfl)) rfl)) (ResAt.cell rfl (loads1 G27 (cell_at (hS.get (t := 2) rfl)) rfl)) ?_
      exact ⟨⟨_, rfl, Mp.nil⟩, hS.ext⟩
     ·have hr605 := if_f hc603 hr588
      refine sk (sq (rg (ld G87 J J (sO 4 rfl) rfl (sto 1 (cs := [.map (some b39)]) Z87 J J J J J J J (sto 2 (cs := [.int .i64 0]) Z27 J J J J J J J (on (rt_ ?_)))))))
      cases hr605
      refine rtM (rtMs (A := [(4, cel b40 87 [.map (some b39)]), (3, Own.map' keS (Value.int .i64) b39 t221), (2, cel b5 27 [.int .i64 0]), (1, cel b4 87 [.map (some b39)])]) (bs := bs222) (rt0 ?_))
      intro a w hS hA
      refine rc2 hA rfl (ResAt.cell rfl (loads1 G87 (cell_at (hS.get (t := 1) rfl)) rfl)) (ResAt.cell rfl (loads1 G27 (cell_at (hS.get (t := 2) rfl)) rfl)) ?_
      exact ⟨⟨_, rfl, (hS.mapOut 3 rfl)⟩, hS.ext⟩

theorem w85F (n_ : Nat) : ∀ {M : Prop} {W : World} {H : Hp} (hH : H.le (hp W)) (s_0 : Bytes) {q_f0_ : Addr} {mp_f0_ : Value} {f0_ : List (Bytes × Bytes)} (hc_f0_ : CellsAt H q_f0_ [mp_f0_]) (h_f0_ : Mp keS (fun x => Value.string (bs x)) H mp_f0_ f0_) {q_f1_ : Addr} (hc_f1_ : CellsAt H q_f1_ [.func (.func 85) [].toArray [.pointer (some q_f0_), .pointer (some q_f1_)].toArray]) {r : Bytes}, m85F n_ s_0 f0_ = some r → Calls Tryz.prog 85 [.string (bs s_0), .pointer (some q_f0_), .pointer (some q_f1_)].toArray W (RetS M W (.string (bs r))) := by
 induction n_ with
 | zero => intro M W H hH s_0 q_f0_ mp_f0_ f0_ hc_f0_ h_f0_ q_f1_ hc_f1_ r hr; cases hr
 | succ n_ ih_ =>
  intro M W H hH s_0 q_f0_ mp_f0_ f0_ hc_f0_ h_f0_ q_f1_ hc_f1_ r hr
  unfold m85F at hr
  refine enterG (M := M) Tryz.func85 rfl Tryz.ntmps85 rfl hH ?_
  refine sq (rg (a1 rfl (on (sq (sq (rg (ld G85 J J (sS 0 rfl hc_f0_) rfl (m1 rfl (lk2 (ke := keS) (enc := (fun x => Value.string (bs x))) s_0 (z0 := ([] : Bytes)) U85 U9 Tryz.zeroValue9 J J J J (mS 0 rfl h_f0_) (m1 rfl (ex J J J ?_)))))))))))
  refine ex J J J (a1 rfl (a1 rfl (on (sq ?_))))
  obtain ⟨t4, hx5, hr6⟩ := bd_some hr
  refine jn (fun a w => St M W H [H] [] w ∧ Has [] 23 a [(0, .string (bs s_0)), (2, .pointer (some q_f1_)), (5, .string (bs ((lkp f0_ s_0).getD ([] : Bytes)))), (18, .bool t4)]) ?_ ?_
  ·refine rg (m1 rfl (m1 rfl ?_))
   rcases Bool.eq_false_or_eq_true ((lkp f0_ s_0).isSome) with hb7 | hb7
   ·have hr8 := if_p hb7 hx5
    refine gN J J (hb7) (m1 rfl (gN J J (hb7) (m1 rfl (gN J J (hb7) (neS J J J (pT J J (hb7) rfl (on ?_)))))))
    cases hr8
    exact cu ⟨rfl, rfl, rfl, rfl, tv⟩
   ·have hr9 := if_f hb7 hx5
    refine gF J J (hb7) rfl (gF J J (hb7) rfl (gF J J (hb7) rfl (pF J J (hb7) rfl (on ?_))))
    cases hr9
    exact cu ⟨rfl, rfl, rfl, rfl, tv⟩
  ·rintro a w ⟨hS, hA⟩
   refine TG.ap ?_ hS hA
   refine cb rfl (fun hc16 => ?_) (fun hc16 => ?_)
   ·have hr17 := if_p hc16 hr6
    refine sq (rg (ld G95 J J (sS 0 rfl hc_f1_) rfl (m1 rfl ?_)))
    obtain ⟨r18, hx19, hr20⟩ := bd_some hr17
    refine clS C85 J J J J (fun w H hH le => ih_ hH ((lkp f0_ s_0).getD ([] : Bytes)) (f0_ := f0_) (hc_f0_.mono (le.at 0 rfl)) (h_f0_.mono (le.at 0 rfl)) (hc_f1_.mono (le.at 0 rfl)) hx19) (a1 rfl (on (rt_ ?_)))
    cases hr20
    intro a w hS hA
    refine ret1 hA J J ?_
    exact ⟨rfl, hS.ext⟩
   ·have hr21 := if_f hc16 hr6
    refine sk (sq (rg (m1 rfl (a1 rfl (on (rt_ ?_))))))
    cases hr21
    intro a w hS hA
    refine ret1 hA J J ?_
    exact ⟨rfl, hS.ext⟩
theorem w85 {M : Prop} {W : World} {H : Hp} (hH : H.le (hp W)) (s_0 : Bytes) {q_f0_ : Addr} {mp_f0_ : Value} {f0_ : List (Bytes × Bytes)} (hc_f0_ : CellsAt H q_f0_ [mp_f0_]) (h_f0_ : Mp keS (fun x => Value.string (bs x)) H mp_f0_ f0_) {q_f1_ : Addr} (hc_f1_ : CellsAt H q_f1_ [.func (.func 85) [].toArray [.pointer (some q_f0_), .pointer (some q_f1_)].toArray]) {r : Bytes} (hr : m85 s_0 f0_ = some r) : Calls Tryz.prog 85 [.string (bs s_0), .pointer (some q_f0_), .pointer (some q_f1_)].toArray W (RetS M W (.string (bs r))) := by
 obtain ⟨n_, hn⟩ := rec_some (show recO (fun n_ => m85F n_ s_0 f0_) = some r from hr)
 exact w85F n_ hH s_0 hc_f0_ h_f0_ hc_f1_ hn

theorem w53 {M : Prop} {W : World} {H : Hp} (hH : H.le (hp W)) {mp_l_0 : Value} {l_0 : List (Bytes × Bytes)} (h_l_0 : Mp keS (fun x => Value.string (bs x)) H mp_l_0 l_0) (s_1 : Bytes) {r : Bytes} (hr : m53 l_0 s_1 = some r) : Calls Tryz.prog 53 [mp_l_0, .string (bs s_1)].toArray W (RetS M W (.string (bs r))) := by
 unfold m53 at hr
 refine enterG (M := M) Tryz.func53 rfl Tryz.ntmps53 rfl hH ?_
 refine sq (rg ?_)
 obtain ⟨b1, rfl⟩ := Mp.isMap h_l_0
 refine bI (cs := [.map b1]) J J J fun q2 K3 hK4 => (a1 rfl (on (sq (rg (al 1 (cs := [.nilFunc]) Tryz.zeroValue95 J J fun b5 => (on (sq (rg (fn J J J (sto 1 (cs := [.func (.func 85) [].toArray [.pointer (some q2), .pointer (some (⟨b5, 0, none⟩))].toArray]) Z95 J J J J J J J (on ?_)))))))))))
 refine sq (rg (ld G95 J J (sO 1 rfl) rfl (m1 rfl ?_)))
 obtain ⟨r6, hx7, hr8⟩ := bd_some hr
 refine clL C85 J J J J (fun w hS => w85 (Hp.le.refl (hp w)) s_1 (f0_ := l_0) (hK4.mono (hS.hp 0 rfl)) (h_l_0.mono (hS.hp 1 rfl)) (cell_at (hS.get (t := 1) rfl)) hx7) (a1 rfl (on (rt_ ?_)))
 cases hr8
 intro a w hS hA
 refine ret1 hA J J ?_
 exact ⟨rfl, hS.ext⟩

theorem w54 {M : Prop} {W : World} {H : Hp} (hH : H.le (hp W)) {ad_x_0 : Option Addr} {cap_x_0 : Nat} {x_0 : List Bytes} (h_x_0 : Sl (Flat encS) 1 H ad_x_0 cap_x_0 x_0) {fv_cmp : Value} {cmp : Bytes → Bytes → Option Int} (h_cmp : FnV M Tryz.prog H fv_cmp (SF2 Vs Vs (Value.int .i64) cmp)) {r : Bytes} (hr : m54 x_0 cmp = some r) : Calls Tryz.prog 54 [.slice ad_x_0 x_0.length cap_x_0, fv_cmp].toArray W (RetS M W (.string (bs r))) := by
 have := h_x_0.len
 have hh_cmp := h_cmp
 obtain ⟨f_cmp, fi_cmp, ca_cmp, rfl, _, _⟩ := h_cmp
 unfold m54 at hr
 refine enterG (M := M) Tryz.func54 rfl Tryz.ntmps54 rfl hH ?_
 refine sq (rg (a1 rfl (on (sq (sq (rg (m1 rfl (lnL U50 J J (ltI J J J (on ?_))))))))))
 refine ci rfl (fun hc4 => ?_) (fun hc4 => ?_)
 ·have hr5 := if_p hc4 hr
  refine rg (fi U9 J J J ?_)
  cases hr5
 ·have hr6 := if_n hc4 hr
  refine sk (sq (rg (m1 rfl ?_)))
  obtain ⟨x7, hx8, hr9⟩ := bd_some hr6
  obtain ⟨p10, rfl⟩ := h_x_0.adr hx8
  obtain ⟨cs11, hcs12, hq13, hr14⟩ := h_x_0.at hx8
  obtain rfl := hr14
  refine iaP U50 Z9 J J J J (lt_of hx8) (ld G9 J J (sS 0 rfl hq13) rfl (a1 rfl (on (sq (sq (rg (a1 rfl (on ?_))))))))
  obtain ⟨e33, hl34, hr35⟩ := bd_some hr9
  refine jn (fun a w => St M W H [H] [] w ∧ Has [] 33 a [(5, .string (bs e33))]) ?_ ?_
  ·refine bk ?_
   refine lp hl34 (fun s36 a w => St M W H [H] [] w ∧ Has [] 33 a [(0, .slice (some p10) x_0.length cap_x_0), (1, .func (.func f_cmp) fi_cmp.toArray ca_cmp.toArray), (5, .string (bs s36.2)), (6, .int .i64 (s36.1 : Int))]) ?_ ?_
   ·exact cu ⟨rfl, rfl, rfl, rfl, tv⟩
   ·rintro j s36 y39 hr37 hz38 a w ⟨hS, hA⟩
    refine TG.ap ?_ hS hA
    unfold m54_1 at hr37
    refine sq (sq (rg (m1 rfl (m1 rfl (lnL U50 J J (ltI J J J (on ?_)))))))
    refine ci rfl (fun hc43 => ?_) (fun hc43 => ?_)
    ·have hr44 := if_p hc43 hr37
     refine sk (sq (bk (sq (rg (m1 rfl (m1 rfl (m1 rfl ?_)))))))
     obtain ⟨x59, hx60, hr61⟩ := bd_some hr44
     obtain ⟨cs62, hcs63, hq64, hr65⟩ := h_x_0.at hx60
     obtain rfl := hr65
     refine iaP U50 Z9 J J J J (lt_of hx60) (ld G9 J J (sS 0 rfl hq64) rfl (m1 rfl ?_))
     obtain ⟨r66, hx67, hr68⟩ := bd_some hr61
     refine clV (v := .int .i64 r66) hh_cmp 0 J J J J (fun H le => ⟨_, _, x59, s36.2, r66, rfl, rfl, rfl, hx67, rfl⟩) (ltI J J J (on ?_))
     obtain ⟨t72, hx73, hr74⟩ := bd_some hr68
     refine jn (fun a w => St M W H [H] [] w ∧ Has [] 33 a [(0, .slice (some p10) x_0.length cap_x_0), (1, .func (.func f_cmp) fi_cmp.toArray ca_cmp.toArray), (5, .string (bs t72)), (6, .int .i64 (s36.1 : Int))]) ?_ ?_
     ·refine ci rfl (fun hc75 => ?_) (fun hc75 => ?_)
      ·have hr76 := if_p hc75 hx73
       refine rg (m1 rfl (m1 rfl (iaP U50 Z9 J J J J (lt_of hx60) (ld G9 J J (sS 0 rfl hq64) rfl (a1 rfl (on ?_))))))
       cases hr76
       exact cu ⟨rfl, rfl, rfl, rfl, tv⟩
      ·have hr77 := if_n hc75 hx73
       refine sk ?_
       cases hr77
       exact cu ⟨rfl, rfl, rfl, rfl, tv⟩
     ·rintro a w ⟨hS, hA⟩
      refine TG.ap ?_ hS hA
      refine rg (m1 rfl (adI J J J (by omega) (a1 rfl (on ?_))))
      cases hr74
      intro a w hS hA
      exact ⟨_, hz38, hS, hA.cut ⟨rfl, rfl, rfl, rfl, tv⟩⟩
    ·have hr78 := if_n hc43 hr37
     refine xt rfl ?_
     cases hr78
     obtain rfl := Fin.out hz38
     exact cu ⟨rfl, tv⟩
  ·rintro a w ⟨hS, hA⟩
   apply TG.ap ?_ hS hA
   refine sq (rg (m1 rfl (a1 rfl (on (rt_ ?_)))))
   cases hr35
   intro a w hS hA
   refine ret1 hA J J ?_
   exact ⟨rfl, hS.ext⟩

theorem w89 {M : Prop} {W : World} {H : Hp} (hH : H.le (hp W)) {ad_slices : Option Addr} {cap_slices : Nat} {slices : List (List Bytes)} (h_slices : Sl (RSl (Flat encS) 1) 1 H ad_slices cap_slices slices) {r : List Bytes} (hr : m89 slices = some r) : Calls Tryz.prog 89 [.slice ad_slices slices.length cap_slices].toArray W (RetK M H W (fun v K => ∃ (ad0 : Option Addr) (cap0 : Nat), v = .slice ad0 r.length cap0 ∧ Sl (Flat encS) 1 K ad0 cap0 r)) := by
 have := h_slices.len
 unfold m89 at hr
 refine enterG (M := M) Tryz.func89 rfl Tryz.ntmps89 rfl hH ?_
 refine sq (rg (a1 rfl (on (sq (rg (a1 rfl (on (sq (sq (rg (m1 rfl ?_)))))))))))
 refine lnL U134 J J (m1 rfl (on ?_))
 obtain ⟨e22, hl23, hr24⟩ := bd_some hr
 refine jn (fun a w => St M W H [H] [] w ∧ Has [] 36 a [(0, .slice ad_slices slices.length cap_slices), (3, .int .i64 (e22 : Int))]) ?_ ?_
 ·refine bk ?_
  refine lp hl23 (fun s25 a w => St M W H [H] [] w ∧ Has [] 36 a [(0, .slice ad_slices slices.length cap_slices), (3, .int .i64 (s25.1 : Int)), (9, .slice ad_slices slices.length cap_slices), (10, .int .i64 (slices.length : Int)), (11, .int .i64 (s25.2 : Int))]) ?_ ?_
  ·exact cu ⟨rfl, rfl, rfl, rfl, rfl, tv⟩
  ·rintro j s25 y28 hr26 hz27 a w ⟨hS, hA⟩
   refine TG.ap ?_ hS hA
   unfold m89_1 at hr26
   refine sq (rg (ltI J J J (on (sq ?_))))
   refine ci rfl (fun hc32 => ?_) (fun hc32 => ?_)
   ·have hr33 := if_p hc32 hr26
    refine sk (sq (bk (sq (rg ?_))))
    obtain ⟨x51, hx52, hr53⟩ := bd_some hr33
    obtain ⟨p54, rfl⟩ := h_slices.adr hx52
    obtain ⟨cs55, hcs56, hq57, hr58⟩ := h_slices.at hx52
    have hr59 := hr58
    obtain ⟨ad60, cap61, rfl, hl62⟩ := hr58
    have := hl62.len
    refine iaP U134 Z50 J J J J (lt_of hx52) (ld G50 J J (sS 0 rfl hq57) rfl (a1 rfl (on (sq (rg (m1 rfl (m1 rfl (lnL U50 J J ?_))))))))
    obtain ⟨hk63, hr64⟩ := chk_some hr53
    refine adI J J J hk63 (a1 rfl (on (sq (rg (m1 rfl (ltI J J J (on ?_)))))))
    refine ci rfl (fun hc68 => ?_) (fun hc68 => ?_)
    ·have hr69 := if_p hc68 hr64
     refine rg (fi U9 J J J ?_)
     cases hr69
    ·have hr70 := if_n hc68 hr64
     refine sk (rg (adI J J J (by omega) (m1 rfl (on ?_))))
     cases hr70
     intro a w hS hA
     exact ⟨_, hz27, hS, hA.cut ⟨rfl, rfl, rfl, rfl, rfl, tv⟩⟩
   ·have hr71 := if_n hc32 hr26
    refine xt rfl ?_
    cases hr71
    obtain rfl := Fin.out hz27
    exact cu ⟨rfl, rfl, tv⟩
 ·rintro a w ⟨hS, hA⟩
  apply TG.ap ?_ hS hA
  refine sq (rg (m1 rfl ?_))
  obtain ⟨hk72, hr73⟩ := chk_some hr24
  refine grw 1 (encS : Bytes → List Value) e22 Tryz.grow125 C125 J J J J J hk72 fun ad74 cap75 => (a1 rfl (on (sq (sq (rg (m1 rfl (lnL U134 J J (m1 rfl (on ?_)))))))))
  obtain ⟨e141, hl142, hr143⟩ := bd_some hr73
  refine jn (fun a w => ∃ (ad144 : Option Addr) (cap145 : Nat), St M W H [H] [(1, Own.list ad144 cap145 9 1 encS e141)] w ∧ Has [] 36 a [(6, .slice ad144 e141.length cap145)]) ?_ ?_
  ·refine bk ?_
   refine lp hl142 (fun s146 a w => ∃ (ad147 : Option Addr) (cap148 : Nat), St M W H [H] [(1, Own.list ad147 cap148 9 1 encS s146.2)] w ∧ Has [] 36 a [(6, .slice ad147 s146.2.length cap148), (25, .slice ad_slices slices.length cap_slices), (26, .int .i64 (slices.length : Int)), (27, .int .i64 (s146.1 : Int))]) ?_ ?_
   ·intro a w hS hA
    exact ⟨ad74, cap75, hS, hA.cut ⟨rfl, rfl, rfl, rfl, tv⟩⟩
   ·rintro j s146 y151 hr149 hz150 a w ⟨ad147, cap148, hS, hA⟩
    refine TG.ap ?_ hS hA
    unfold m89_2 at hr149
    refine sq (rg (ltI J J J (on (sq ?_))))
    refine ci rfl (fun hc155 => ?_) (fun hc155 => ?_)
    ·have hr156 := if_p hc155 hr149
     refine sk (sq (bk (sq (rg ?_))))
     obtain ⟨x173, hx174, hr175⟩ := bd_some hr156
     obtain ⟨p176, rfl⟩ := h_slices.adr hx174
     obtain ⟨cs177, hcs178, hq179, hr180⟩ := h_slices.at hx174
     have hr181 := hr180
     obtain ⟨ad182, cap183, rfl, hl184⟩ := hr180
     have := hl184.len
     refine iaP U134 Z50 J J J J (lt_of hx174) (ld G50 J J (sS 0 rfl hq179) rfl (a1 rfl (on (rg (m1 rfl (m1 rfl ?_))))))
     obtain ⟨hk185, hr186⟩ := chk_some hr175
     have := lenA s146.2 x173
     refine apS 1 (enc := encS) (l := s146.2) (m := x173) T11.E50 J J J J J J hl184 0 rfl (fun _ => rfl) (fun _ => rfl) rfl hk185 fun ad187 cap188 => (a1 rfl (on (rg (adI J J J (by omega) (m1 rfl (on ?_))))))
     cases hr186
     intro a w hS hA
     exact ⟨_, hz150, ad187, cap188, hS, hA.cut ⟨rfl, rfl, rfl, rfl, tv⟩⟩
    ·have hr189 := if_n hc155 hr149
     refine xt rfl ?_
     cases hr189
     obtain rfl := Fin.out hz150
     intro a w hS hA
     exact ⟨ad147, cap148, hS, hA.cut ⟨rfl, tv⟩⟩
  ·rintro a w ⟨ad144, cap145, hS, hA⟩
   apply TG.ap ?_ hS hA
   refine sq (rg (m1 rfl (a1 rfl (on (rt_ ?_)))))
   cases hr143
   intro a w hS hA
   refine ret1 hA J J ?_
   exact ⟨⟨_, _, rfl, (hS.listOut 1 rfl (fun _ => rfl))⟩, hS.ext⟩

theorem w93 {M : Prop} {W : World} {H : Hp} (hH : H.le (hp W)) (s_0 : Bytes) {q_f0_ : Addr} (f0_ : Bytes) (hc_f0_ : CellsAt H q_f0_ [.string (bs f0_)]) {r : Bool} (hr : m93 s_0 f0_ = some r) : Calls Tryz.prog 93 [.string (bs s_0), .pointer (some q_f0_)].toArray W (RetS M W (.bool r)) := by
 unfold m93 at hr
 refine enterG (M := M) Tryz.func93 rfl Tryz.ntmps93 rfl hH ?_
 refine sq (rg (a1 rfl (on (sq (rg (m1 rfl (ld G9 J J (sS 0 rfl hc_f0_) rfl (eqS J J J (a1 rfl (on (rt_ ?_)))))))))))
 obtain rfl := sj hr
 intro a w hS hA
 refine ret1 hA J J ?_
 exact ⟨rfl, hS.ext⟩

theorem w56 {M : Prop} {W : World} {H : Hp} (hH : H.le (hp W)) (but : Bytes) {ad_lists : Option Addr} {cap_lists : Nat} {lists : List (List Bytes)} (h_lists : Sl (RSl (Flat encS) 1) 1 H ad_lists cap_lists lists) {r : List Bytes} (hr : m56 but lists = some r) : Calls Tryz.prog 56 [.string (bs but), .slice ad_lists lists.length cap_lists].toArray W (RetK M H W (fun v K => ∃ (ad0 : Option Addr) (cap0 : Nat), v = .slice ad0 r.length cap0 ∧ Sl (Flat encS) 1 K ad0 cap0 r)) := by
 have := h_lists.len
 unfold m56 at hr
 refine enterG (M := M) Tryz.func56 rfl Tryz.ntmps56 rfl hH ?_
 refine sq (rg (bI (cs := [.string (bs but)]) J J J fun q1 K2 hK3 => (a1 rfl (on (sq (rg (m1 rfl ?_)))))))
 obtain ⟨t98, hx99, hr100⟩ := bd_some hr
 refine clI C89 Tryz.func89 rfl Tryz.ntmps89 J J J J (fun v w => (∃ (ad101 : Option Addr) (cap102 : Nat), v = .slice ad101 t98.length cap102 ∧ St M W H [K2, H] [(1, Own.list ad101 cap102 9 1 encS t98)] w)) ?_ ?_
 ·refine sq (rg (a1 rfl (on (sq (rg (a1 rfl (on (sq (sq (rg (m1 rfl ?_)))))))))))
  refine lnL U134 J J (m1 rfl (on ?_))
  obtain ⟨e124, hl125, hr126⟩ := bd_some hx99
  refine jn (fun a w => St M W H [K2, H] [] w ∧ Has [] 36 a [(0, .slice ad_lists lists.length cap_lists), (3, .int .i64 (e124 : Int))]) ?_ ?_
  ·refine bk ?_
   refine lp hl125 (fun s127 a w => St M W H [K2, H] [] w ∧ Has [] 36 a [(0, .slice ad_lists lists.length cap_lists), (3, .int .i64 (s127.1 : Int)), (9, .slice ad_lists lists.length cap_lists), (10, .int .i64 (lists.length : Int)), (11, .int .i64 (s127.2 : Int))]) ?_ ?_
   ·exact cu ⟨rfl, rfl, rfl, rfl, rfl, tv⟩
   ·rintro j s127 y130 hr128 hz129 a w ⟨hS, hA⟩
    refine TG.ap ?_ hS hA
    unfold m56_1 at hr128
    refine sq (rg (ltI J J J (on (sq ?_))))
    refine ci rfl (fun hc134 => ?_) (fun hc134 => ?_)
    ·have hr135 := if_p hc134 hr128
     refine sk (sq (bk (sq (rg ?_))))
     obtain ⟨x153, hx154, hr155⟩ := bd_some hr135
     obtain ⟨p156, rfl⟩ := h_lists.adr hx154
     obtain ⟨cs157, hcs158, hq159, hr160⟩ := h_lists.at hx154
     have hr161 := hr160
     obtain ⟨ad162, cap163, rfl, hl164⟩ := hr160
     have := hl164.len
     refine iaP U134 Z50 J J J J (lt_of hx154) (ld G50 J J (sS 1 rfl hq159) rfl (a1 rfl (on (sq (rg (m1 rfl (m1 rfl (lnL U50 J J ?_))))))))
     obtain ⟨hk165, hr166⟩ := chk_some hr155
     refine adI J J J hk165 (a1 rfl (on (sq (rg (m1 rfl (ltI J J J (on ?_)))))))
     refine ci rfl (fun hc170 => ?_) (fun hc170 => ?_)
     ·have hr171 := if_p hc170 hr166
      refine rg (fi U9 J J J ?_)
      cases hr171
     ·have hr172 := if_n hc170 hr166
      refine sk (rg (adI J J J (by omega) (m1 rfl (on ?_))))
      cases hr172
      intro a w hS hA
      exact ⟨_, hz129, hS, hA.cut ⟨rfl, rfl, rfl, rfl, rfl, tv⟩⟩
    ·have hr173 := if_n hc134 hr128
     refine xt rfl ?_
     cases hr173
     obtain rfl := Fin.out hz129
     exact cu ⟨rfl, rfl, tv⟩
  ·rintro a w ⟨hS, hA⟩
   apply TG.ap ?_ hS hA
   refine sq (rg (m1 rfl ?_))
   obtain ⟨hk174, hr175⟩ := chk_some hr126
   refine grw 1 (encS : Bytes → List Value) e124 Tryz.grow125 C125 J J J J J hk174 fun ad176 cap177 => (a1 rfl (on (sq (sq (rg (m1 rfl (lnL U134 J J (m1 rfl (on ?_)))))))))
   obtain ⟨e243, hl244, hr245⟩ := bd_some hr175
   refine jn (fun a w => ∃ (ad246 : Option Addr) (cap247 : Nat), St M W H [K2, H] [(1, Own.list ad246 cap247 9 1 encS e243)] w ∧ Has [] 36 a [(6, .slice ad246 e243.length cap247)]) ?_ ?_
   ·refine bk ?_
    refine lp hl244 (fun s248 a w => ∃ (ad249 : Option Addr) (cap250 : Nat), St M W H [K2, H] [(1, Own.list ad249 cap250 9 1 encS s248.2)] w ∧ Has [] 36 a [(6, .slice ad249 s248.2.length cap250), (25, .slice ad_lists lists.length cap_lists), (26, .int .i64 (lists.length : Int)), (27, .int .i64 (s248.1 : Int))]) ?_ ?_
    ·intro a w hS hA
     exact ⟨ad176, cap177, hS, hA.cut ⟨rfl, rfl, rfl, rfl, tv⟩⟩
    ·rintro j s248 y253 hr251 hz252 a w ⟨ad249, cap250, hS, hA⟩
     refine TG.ap ?_ hS hA
     unfold m56_2 at hr251
     refine sq (rg (ltI J J J (on (sq ?_))))
     refine ci rfl (fun hc257 => ?_) (fun hc257 => ?_)
     ·have hr258 := if_p hc257 hr251
      refine sk (sq (bk (sq (rg ?_))))
      obtain ⟨x275, hx276, hr277⟩ := bd_some hr258
      obtain ⟨p278, rfl⟩ := h_lists.adr hx276
      obtain ⟨cs279, hcs280, hq281, hr282⟩ := h_lists.at hx276
      have hr283 := hr282
      obtain ⟨ad284, cap285, rfl, hl286⟩ := hr282
      have := hl286.len
      refine iaP U134 Z50 J J J J (lt_of hx276) (ld G50 J J (sS 1 rfl hq281) rfl (a1 rfl (on (rg (m1 rfl (m1 rfl ?_))))))
      obtain ⟨hk287, hr288⟩ := chk_some hr277
      have := lenA s248.2 x275
      refine apS 1 (enc := encS) (l := s248.2) (m := x275) T11.E50 J J J J J J hl286 1 rfl (fun _ => rfl) (fun _ => rfl) rfl hk287 fun ad289 cap290 => (a1 rfl (on (rg (adI J J J (by omega) (m1 rfl (on ?_))))))
      cases hr288
      intro a w hS hA
      exact ⟨_, hz252, ad289, cap290, hS, hA.cut ⟨rfl, rfl, rfl, rfl, tv⟩⟩
     ·have hr291 := if_n hc257 hr251
      refine xt rfl ?_
      cases hr291
      obtain rfl := Fin.out hz252
      intro a w hS hA
      exact ⟨ad249, cap250, hS, hA.cut ⟨rfl, tv⟩⟩
   ·rintro a w ⟨ad246, cap247, hS, hA⟩
    apply TG.ap ?_ hS hA
    refine sq (rg (m1 rfl (a1 rfl (on (rt_ ?_)))))
    cases hr245
    intro a w hS hA
    refine ret1 hA J J ?_
    exact ⟨_, rfl, ⟨ad246, cap247, rfl, hS⟩⟩
 ·rintro a w v hA (⟨ad101, cap102, rfl, hS⟩)
  refine putK rfl hA hS (a1 rfl (on (sq (rg (m1 rfl ?_)))))
  obtain ⟨l292, hx293, hr294⟩ := bd_some hr100
  have hln295 : l292.length = t98.length := (sortO_len hx293)
  refine srt1 1 (enc := encS) (V := Vs) (V' := Vs) (fun x => Value.string (bs x)) (fun _ => rfl) (fun _ => rfl) Tryz.srt90 C90 J J J J J J (fun H le => ⟨55, [], [], rfl, C55, fun w_ K_ args_ v_ hK hw hs => by obtain ⟨u0_, u1_, x0_, x1_, r_, rfl, h0_, h1_, hx, rfl⟩ := hs; cases h0_; cases h1_; exact w55  x0_ x1_  hx⟩) (fun _ _ => rfl) (fun _ _ => rfl) hx293 (on (sq (rg (m1 rfl (TG.len 1 rfl fun _ => ?_)))))
  have := cpt_le l292
  refine rowc 1 (fun w _ => Tryz.cpt92 _ (by omega) w _) (cpt0 _) C92 J J J J J hln295.symm (fn J J J (TG.len 1 rfl fun _ => ?_))
  have := List.length_filter_le (fun x => !decide (x = but)) (Lib.compact l292)
  refine rowc 1 (fun w hS => Tryz.del91 _ (by omega) but q1 w _ hS.vis_le (hK3.mono (hS.at 0 rfl))) (fun h => by rw [h]; rfl) C91 J J J J J J (a1 rfl (on (rt_ ?_)))
  cases hr294
  intro a w hS hA
  refine ret1 hA J J ?_
  exact ⟨⟨_, _, rfl, (hS.listOut 1 rfl (fun _ => rfl))⟩, hS.ext⟩

theorem w95 {M : Prop} {W : World} {cs_a_0 : List Value} (a_0 : Place) (h_a_0 : (Flat encPlace) (hp W) cs_a_0 a_0) {cs_b_1 : List Value} (b_1 : Place) (h_b_1 : (Flat encPlace) (hp W) cs_b_1 b_1) {r : Int} (hr : m95 a_0 b_1 = some r) : Calls Tryz.prog 95 [.agg cs_a_0.toArray, .agg cs_b_1.toArray].toArray W (RetS M W (.int .i64 r)) := by
 obtain rfl := h_a_0
 obtain rfl := h_b_1
 unfold m95 at hr
 refine enterG (M := M) Tryz.func95 rfl Tryz.ntmps95 rfl (Hp.le.refl _) ?_
 refine sq (rg (bI (cs := [.int .i64 a_0.volume, .int .i64 a_0.from_, .int .i64 a_0.to_]) J J J fun q1 K2 hK3 => (bI (cs := [.int .i64 b_1.volume, .int .i64 b_1.from_, .int .i64 b_1.to_]) J J J fun q4 K5 hK6 => (a1 rfl (on (sq (rg (fb 0 U81 J J J J Z3 (ld G3 J J ((sS 1 rfl hK3).take 1) rfl (fb 0 U81 J J J J Z3 (ld G3 J J ((sS 0 rfl hK6).take 1) rfl ?_)))))))))))
 obtain ⟨hk7, hr8⟩ := chk_some hr
 refine sbI J J J hk7 (fb 1 U81 J J J J Z3 (ld G3 J J (((sS 1 rfl hK3).drop 1).take 1) rfl (fb 1 U81 J J J J Z3 (ld G3 J J (((sS 0 rfl hK6).drop 1).take 1) rfl ?_))))
 obtain ⟨hk9, hr10⟩ := chk_some hr8
 refine sbI J J J hk9 (bS (cs := [.int .i64 (a_0.volume - b_1.volume), .int .i64 (a_0.from_ - b_1.from_)]) T11.E125 J J J J fun q11 K12 hq13 hK14 => ?_)
 have hl15 : Sl (Flat (encI .i64)) 1 K12 (some q11) 2 ([(a_0.volume - b_1.volume), (a_0.from_ - b_1.from_)] : List Int) := Sl.litR (css := [[.int .i64 (a_0.volume - b_1.volume)], [.int .i64 (a_0.from_ - b_1.from_)]]) (l := ([(a_0.volume - b_1.volume), (a_0.from_ - b_1.from_)] : List Int)) ⟨⟨rfl, rfl, rfl⟩, ⟨rfl, rfl, rfl⟩, tv⟩ hq13 hK14 rfl
 have := hl15.len
 obtain ⟨r16, hx17, hr18⟩ := bd_some hr10
 refine clS C86 J J J J (fun w H hH le => w86 hH (hl15.mono (Flat.mono _) (le.at 0 rfl)) hx17) (a1 rfl (on (rt_ ?_)))
 cases hr18
 intro a w hS hA
 refine ret1 hA J J ?_
 exact ⟨rfl, hS.ext⟩

theorem w57p {M : Prop} {W w : World} {H V : Hp} {σr : Owns} {ad_l_0 : Option Addr} {cap_l_0 : Nat} {l_0 : List Place} {r : List Place} (hr : m57 l_0 = some r) (hS : St M W H [V] ((1, Own.list ad_l_0 cap_l_0 81 3 encPlace l_0) :: σr) w) : Calls Tryz.prog 57 [.slice ad_l_0 l_0.length cap_l_0].toArray w (RetX M W H V ((1, Own.lisP ad_l_0 cap_l_0 81 3 encPlace l_0) :: σr) (fun v K => ∃ (ad0 : Option Addr) (cap0 : Nat), v = .slice ad0 r.length cap0 ∧ Sl (Flat encPlace) 3 K ad0 cap0 r)) := by
 unfold m57 at hr
 refine enterGO (M := M) Tryz.func57 rfl Tryz.ntmps57 rfl hS ?_
 refine sq (rg (a1 rfl (on (sq (rg (m1 rfl ?_))))))
 obtain ⟨hok2, hall3⟩ := sortW_some hr
 refine srtWk 1 (enc := encPlace) (V := Va encPlace) (V' := Va encPlace) (fun _ => rfl) (fun _ => rfl) Tryz.srw94 C94 J J J J J J (fun H le => ⟨95, [], [], rfl, C95, fun w_ K_ args_ v_ hK hw hs => by obtain ⟨u0_, u1_, x0_, x1_, r_, rfl, h0_, h1_, hx, rfl⟩ := hs; cases h0_; cases h1_; exact w95  x0_ rfl x1_ rfl  hx⟩) (fun _ _ => rfl) (fun _ _ => rfl) hok2 fun l1 hsd4 => ?_
 have hr5 := hall3 l1 hsd4
 have hln6 : l1.length = l_0.length := hsd4.1.length_eq
 refine on (sq (rg (bu (cs := [.int .i64 0, .int .i64 0, .int .i64 0]) T11.B81 J J J (al 2 (cs := [.int .i64 0, .int .i64 0, .int .i64 0]) Tryz.zeroValue81 J J fun b7 => (sto 2 (cs := [.int .i64 0, .int .i64 0, .int .i64 0]) Z81 J J J J J J J (on (sq (sq (rg (m1 rfl (TG.len 1 rfl fun _ => ?_)))))))))))
 refine lnL U62 J J (m1 rfl (on (TG.nilRow 4 81 3 (TG.as 4 (z := Own.list none 0 81 3 encPlace ([] : List Place)) J J ?_))))
 obtain ⟨e176, hl177, hr178⟩ := bd_some hr5
 refine jn (fun a w => ∃ (ad179 : Option Addr) (cap180 : Nat), St M W H [V] ([(4, Own.list ad179 cap180 81 3 encPlace e176.2.2.2), (2, cel b7 81 [.int .i64 e176.1, .int .i64 e176.2.1, .int .i64 e176.2.2.1]), (1, Own.list ad_l_0 cap_l_0 81 3 encPlace l1)] ++ σr) w ∧ Has [] 47 a [(2, .slice ad179 e176.2.2.2.length cap180)]) ?_ ?_
 ·refine bk ?_
  refine lp hl177 (fun s181 a w => ∃ (ad182 : Option Addr) (cap183 : Nat), St M W H [V] ([(4, Own.list ad182 cap183 81 3 encPlace s181.2.2.2.2), (2, cel b7 81 [.int .i64 s181.2.1, .int .i64 s181.2.2.1, .int .i64 s181.2.2.2.1]), (1, Own.list ad_l_0 cap_l_0 81 3 encPlace l1)] ++ σr) w ∧ Has [] 47 a [(2, .slice ad182 s181.2.2.2.2.length cap183), (3, .pointer (some (⟨b7, 0, none⟩))), (9, .slice ad_l_0 l_0.length cap_l_0), (10, .int .i64 (l_0.length : Int)), (11, .int .i64 (s181.1 : Int))]) ?_ ?_
  ·intro a w hS hA
   exact ⟨none, 0, hS, hA.cut ⟨rfl, rfl, rfl, rfl, rfl, tv⟩⟩
  ·rintro j s181 y186 hr184 hz185 a w ⟨ad182, cap183, hS, hA⟩
   refine TG.ap ?_ hS hA
   unfold m57_1 at hr184
   refine sq (rg (ltI J J J (on (sq ?_))))
   refine ci rfl (fun hc190 => ?_) (fun hc190 => ?_)
   ·have hr191 := if_p hc190 hr184
    refine sk (sq (bk (sq (rg ?_))))
    obtain ⟨x230, hx231, hr232⟩ := bd_some hr191
    refine TG.addr 1 rfl (lt_of0 hx231) fun b233 h => ?_; subst h
    refine iaP U62 Z81 J J J J (Nat.lt_of_lt_of_eq (lt_of hx231) hln6) (ldA G81 Z81 J J (sE 1 rfl (fun _ => rfl) hx231) rfl (va (cs := [.int .i64 x230.volume, .int .i64 x230.from_, .int .i64 x230.to_]) Tryz.zeroValue81 Z81 J J J J J J J J fun q234 K235 hK236 => (on (sq (sq ?_)))))
    obtain ⟨t243, hx244, hr245⟩ := bd_some hr232
    refine jn (fun a w => St M W H [K235, V] ([(4, Own.list ad182 cap183 81 3 encPlace s181.2.2.2.2), (2, cel b7 81 [.int .i64 s181.2.1, .int .i64 s181.2.2.1, .int .i64 s181.2.2.2.1]), (1, Own.list (some ⟨b233, 0, none⟩) cap_l_0 81 3 encPlace l1)] ++ σr) w ∧ Has [] 47 a [(2, .slice ad182 s181.2.2.2.2.length cap183), (3, .pointer (some (⟨b7, 0, none⟩))), (5, .pointer (some q234)), (9, .slice (some ⟨b233, 0, none⟩) l_0.length cap_l_0), (10, .int .i64 (l_0.length : Int)), (11, .int .i64 (s181.1 : Int)), (23, .bool t243)]) ?_ ?_
    ·refine rg (ldA G81 Z81 J J (sO 2 rfl) rfl (bu (cs := [.int .i64 0, .int .i64 0, .int .i64 0]) T11.B81 J J J (neA (⟨s181.2.1, s181.2.2.1, s181.2.2.2.1⟩ : Place) (⟨0, 0, 0⟩ : Place) T11.Q81 J J J (m1 rfl ?_))))
     by_cases hb246 : (⟨s181.2.1, s181.2.2.1, s181.2.2.2.1⟩ : Place) = (⟨0, 0, 0⟩ : Place)
     ·have hr247 := if_p hb246 hx244
      refine gF J J (congrArg not (decide_eq_true hb246)) rfl (gF J J (congrArg not (decide_eq_true hb246)) rfl (gF J J (congrArg not (decide_eq_true hb246)) rfl (gF J J (congrArg not (decide_eq_true hb246)) rfl (pF J J (congrArg not (decide_eq_true hb246)) rfl (on ?_)))))
      cases hr247
      exact cu ⟨rfl, rfl, rfl, rfl, rfl, rfl, rfl, tv⟩
     ·have hr248 := if_n hb246 hx244
      refine gN J J (congrArg not (decide_eq_false hb246)) (ldA G81 Z81 J J (sO 2 rfl) rfl (gN J J (congrArg not (decide_eq_false hb246)) (ldA G81 Z81 J J (sS 0 rfl hK236) rfl (gN J J (congrArg not (decide_eq_false hb246)) ?_))))
      obtain ⟨r249, hx250, hr251⟩ := bd_some hr248
      refine clS C96 J J J J (fun w H hH le => w96 (⟨s181.2.1, s181.2.2.1, s181.2.2.2.1⟩ : Place) rfl x230 rfl hx250) (gN J J (congrArg not (decide_eq_false hb246)) (nt J J (pT J J (congrArg not (decide_eq_false hb246)) rfl (on ?_))))
      cases hr251
      exact cu ⟨rfl, rfl, rfl, rfl, rfl, rfl, rfl, tv⟩
    ·rintro a w ⟨hS, hA⟩
     refine TG.ap ?_ hS hA
     obtain ⟨t267, hx268, hr269⟩ := bd_some hr245
     refine jn (fun a w => ∃ (ad270 : Option Addr) (cap271 : Nat), St M W H [K235, V] ([(4, Own.list ad270 cap271 81 3 encPlace t267), (2, cel b7 81 [.int .i64 s181.2.1, .int .i64 s181.2.2.1, .int .i64 s181.2.2.2.1]), (1, Own.list (some ⟨b233, 0, none⟩) cap_l_0 81 3 encPlace l1)] ++ σr) w ∧ Has [] 47 a [(2, .slice ad270 t267.length cap271), (3, .pointer (some (⟨b7, 0, none⟩))), (9, .slice (some ⟨b233, 0, none⟩) l_0.length cap_l_0), (10, .int .i64 (l_0.length : Int)), (11, .int .i64 (s181.1 : Int))]) ?_ ?_
     ·refine cb rfl (fun hc272 => ?_) (fun hc272 => ?_)
      ·have hr273 := if_p hc272 hx268
       refine rg (m1 rfl (m1 rfl (TG.len 4 rfl fun _ => (lnL U62 J J (sbI J J J (by omega) (fb 2 U81 J J J J Z3 (ld G3 J J ((sO 2 rfl).drop 2) rfl (fb 2 U81 J J J J Z3 (ld G3 J J ((sS 0 rfl hK236).drop 2) rfl (mx2 J J J ?_))))))))))
       obtain ⟨hk274, hr275⟩ := chk_some hr273
       obtain ⟨x276, hx277, hr278⟩ := bd_some hr275
       refine TG.addr 4 rfl (lt_of0 hx277) fun b279 h => ?_; subst h
       refine iaP U62 Z81 J J J (by omega) (lt_of hx277) (fb 2 U81 J J J J Z3 ?_)
       have hln280 : (s181.2.2.2.2.set (((s181.2.2.2.2.length : Int) - 1).toNat) (⟨x276.volume, x276.from_, (max s181.2.2.2.1 x230.to_)⟩ : Place)).length = s181.2.2.2.2.length := (lenS _ _ _)
       refine stE 4 (⟨x276.volume, x276.from_, (max s181.2.2.2.1 x230.to_)⟩ : Place) (q := ⟨b279, 0, none⟩) (j := ((s181.2.2.2.2.length : Int) - 1).toNat) (size := 3) (cs := [.int .i64 (max s181.2.2.2.1 x230.to_)]) (off := 2) Z3 (ad2 (b := 2) rfl) J J (fun _ => rfl) hx277 J J J J J (on ?_)
       cases hr278
       intro a w hS hA
       exact ⟨(some ⟨b279, 0, none⟩), cap183, hS, hA.cut ⟨(congrArg (fun (n : Nat) => some (Value.slice (some ⟨b279, 0, none⟩) n cap183)) hln280.symm), rfl, rfl, rfl, rfl, tv⟩⟩
      ·have hr281 := if_f hc272 hx268
       refine rg (m1 rfl (ldA G81 Z81 J J (sS 0 rfl hK236) rfl ?_))
       obtain ⟨hk282, hr283⟩ := chk_some hr281
       have := lenA s181.2.2.2.2 [x230]
       have := len1 x230
       refine ap1 4 encPlace (l := s181.2.2.2.2) x230 T11.E62 J J J J J J J J J J J J hk282 fun ad284 cap285 u286 => (a1 rfl (on ?_))
       cases hr283
       intro a w hS hA
       exact ⟨ad284, cap285, hS, hA.cut ⟨rfl, rfl, rfl, rfl, rfl, tv⟩⟩
     ·rintro a w ⟨ad270, cap271, hS, hA⟩
      refine TG.ap ?_ hS hA
      refine rg (m1 rfl (m1 rfl (TG.len 4 rfl fun _ => (lnL U62 J J (sbI J J J (by omega) ?_)))))
      obtain ⟨hk287, hr288⟩ := chk_some hr269
      obtain ⟨x289, hx290, hr291⟩ := bd_some hr288
      refine TG.addr 4 rfl (lt_of0 hx290) fun b292 h => ?_; subst h
      refine iaP U62 Z81 J J J (by omega) (lt_of hx290) (ldA G81 Z81 J J (sE 4 rfl (fun _ => rfl) hx290) rfl (sto 2 (cs := [.int .i64 x289.volume, .int .i64 x289.from_, .int .i64 x289.to_]) Z81 J J J J J J J (on (rg (adI J J J (by omega) (m1 rfl (on ?_)))))))
      cases hr291
      intro a w hS hA
      exact ⟨_, hz185, (some ⟨b292, 0, none⟩), cap271, hS.selH [1] rfl, hA.cut ⟨rfl, rfl, rfl, rfl, rfl, tv⟩⟩
   ·have hr293 := if_n hc190 hr184
    refine xt rfl ?_
    cases hr293
    obtain rfl := Fin.out hz185
    intro a w hS hA
    exact ⟨ad182, cap183, hS, hA.cut ⟨rfl, tv⟩⟩
 ·rintro a w ⟨ad179, cap180, hS, hA⟩
  apply TG.ap ?_ hS hA
  refine sq (rg (m1 rfl (a1 rfl (on (rt_ (TG.still 4 rfl (fun _ => rfl) fun K294 hl295 => ?_))))))
  have := hl295.len
  refine TG.del 2 ?_
  cases hr178
  intro a w hS hA
  refine ret1 hA J J ?_
  exact ⟨_, _, rfl, (hS.lisP hsd4.1).selH [0, 1] rfl, _, _, rfl, hl295⟩
theorem m57_perm {l_0 l' : List Place} (hp : l'.Perm l_0) : m57 l' = m57 l_0 := by
 have e : ∀ l1, m57_1 l' l1 = m57_1 l_0 l1 := fun l1 => by funext s; unfold m57_1; rw [hp.length_eq]
 unfold m57
 rw [sortW_congr hp]
 simp only [e]
theorem w57 {M : Prop} {W w : World} {H V : Hp} {σr : Owns} {ad_l_0 : Option Addr} {cap_l_0 : Nat} {l_0 : List Place} {r : List Place} (hr : m57 l_0 = some r) (hS : St M W H [V] ((1, Own.lisP ad_l_0 cap_l_0 81 3 encPlace l_0) :: σr) w) : Calls Tryz.prog 57 [.slice ad_l_0 l_0.length cap_l_0].toArray w (RetX M W H V ((1, Own.lisP ad_l_0 cap_l_0 81 3 encPlace l_0) :: σr) (fun v K => ∃ (ad0 : Option Addr) (cap0 : Nat), v = .slice ad0 r.length cap0 ∧ Sl (Flat encPlace) 3 K ad0 cap0 r)) := by
 obtain ⟨l', hp, hS'⟩ := hS.unP
 have hr' : m57 l' = some r := by
  rw [← hr]; exact m57_perm hp
 have key : ∀ n, n = l'.length → Calls Tryz.prog 57 [.slice ad_l_0 n cap_l_0].toArray w (RetX M W H V ((1, Own.lisP ad_l_0 cap_l_0 81 3 encPlace l') :: σr) (fun v K => ∃ (ad0 : Option Addr) (cap0 : Nat), v = .slice ad0 r.length cap0 ∧ Sl (Flat encPlace) 3 K ad0 cap0 r)) := fun n hn => by subst hn; exact w57p hr' hS'
 exact (key _ hp.length_eq.symm).mono fun e w_ h => h.lisP hp

theorem w59 {M : Prop} {W : World} {H : Hp} (hH : H.le (hp W)) {cs_a_0 : List Value} (a_0 : Heading) (h_a_0 : (RHeading) H cs_a_0 a_0) {cs_b_1 : List Value} (b_1 : Heading) (h_b_1 : (RHeading) H cs_b_1 b_1) {r : Int} (hr : m59 a_0 b_1 = some r) : Calls Tryz.prog 59 [.agg cs_a_0.toArray, .agg cs_b_1.toArray].toArray W (RetS M W (.int .i64 r)) := by
 have hh_a_0 := h_a_0
 obtain ⟨ad1, cap2, ad4, cap5, ad7, cap8, rfl, hl3, hl6, hl9⟩ := h_a_0
 have := hl3.len
 have := hl6.len
 have := hl9.len
 have hh_b_1 := h_b_1
 obtain ⟨ad10, cap11, ad13, cap14, ad16, cap17, rfl, hl12, hl15, hl18⟩ := h_b_1
 have := hl12.len
 have := hl15.len
 have := hl18.len
 unfold m59 at hr
 refine enterG (M := M) Tryz.func59 rfl Tryz.ntmps59 rfl hH ?_
 refine sq (rg (bI (cs := [.string (bs a_0.name), .slice ad1 a_0.variants.length cap2, .slice ad4 a_0.also.length cap5, .slice ad7 a_0.places.length cap8]) J J J fun q19 K20 hK21 => (bI (cs := [.string (bs b_1.name), .slice ad10 b_1.variants.length cap11, .slice ad13 b_1.also.length cap14, .slice ad16 b_1.places.length cap17]) J J J fun q22 K23 hK24 => (a1 rfl (on (sq (rg (fb 0 U64 J J J J Z9 (ld G9 J J ((sS 1 rfl hK21).take 1) rfl (fb 0 U64 J J J J Z9 (ld G9 J J ((sS 0 rfl hK24).take 1) rfl ?_)))))))))))
 obtain ⟨r25, hx26, hr27⟩ := bd_some hr
 refine clS C55 J J J J (fun w H hH le => w55 a_0.name b_1.name hx26) (a1 rfl (on (rt_ ?_)))
 cases hr27
 intro a w hS hA
 refine ret1 hA J J ?_
 exact ⟨rfl, hS.ext⟩

theorem w18 {M : Prop} {W : World} {H : Hp} (hH : H.le (hp W)) (hg : Gv M H) {ad_indices : Option Addr} {cap_indices : Nat} {indices : List (List Heading)} (h_indices : Sl (RSl RHeading 4) 1 H ad_indices cap_indices indices) {r : List Heading × Int} (hr : m18 indices = some r) : Calls Tryz.prog 18 [.slice ad_indices indices.length cap_indices].toArray W (RetK M H W (fun v K => ∃ (ad0 : Option Addr) (cap0 : Nat), v = .tuple [.slice ad0 r.1.length cap0, .int .i64 r.2].toArray ∧ Sl (RHeading) 4 K ad0 cap0 r.1)) := by
 have := h_indices.len
 unfold m18 at hr
 refine enterGM (M := M) Tryz.func18 rfl Tryz.ntmps18 rfl hH ?_
 refine sq (rg (a1 rfl (a1 rfl (on (sq (sq (rg (m1 rfl (lnL U30 J J (gtI J J J (on ?_)))))))))))
 refine ci rfl (fun hc4 => ?_) (fun hc4 => ?_)
 ·have hr5 := if_p hc4 hr
  refine sq (rg (a1 rfl (a1 rfl (on (rt_ ?_)))))
  cases hr5
  refine rtM (rt0 ?_)
  intro a w hS hA
  refine ret2 hA J J J ?_
  exact ⟨⟨_, _, rfl, (Sl.nil _ _ _ _ _ (by decide))⟩, hS.ext⟩
 ·have hr6 := if_n hc4 hr
  refine sk (sq (rg (mkM 1 keS (fun x => Value.string (bs x)) rfl fun b7 => (al 2 (cs := [.map none]) Tryz.zeroValue85 J J fun b8 => (sto 2 (cs := [.map (some b7)]) Z85 J J J J J J J (on (sq (rg (a1 rfl (on (sq ?_)))))))))))
  refine sq (rg (m1 rfl (lnL U30 J J (m1 rfl (on (TG.nilRow 6 64 4 ?_))))))
  have hR240 : Rows (RHeading) 4 H [] ([] : List Heading) := tv
  refine TG.as 6 (z := Own.rows none 0 64 4 [] ([] : List Heading)) J J ?_
  obtain ⟨e717, hl718, hr719⟩ := bd_some hr6
  refine jn (fun a w => ∃ t720, e717 = .inl t720 ∧ ∃ (ad721 : Option Addr) (cap722 : Nat) (css723 : List (List Value)) (K724 : Hp) (bs726 : List Nat), St M W H [K724, H] ([(6, Own.rows ad721 cap722 64 4 css723 t720.1), (2, cel b8 85 [.map (some b7)]), (1, Own.map' keS (fun x => Value.string (bs x)) b7 t720.2)] ++ MK bs726) w ∧ Has (bs726.map mk1) 241 a [(4, .pointer (some (⟨b8, 0, none⟩))), (5, .slice ad721 t720.1.length cap722)] ∧ Rows (RHeading) 4 K724 css723 t720.1) ?_ ?_
  ·refine bk ?_
   refine lp hl718 (fun s727 a w => ∃ (ad728 : Option Addr) (cap729 : Nat) (css730 : List (List Value)) (K731 : Hp) (bs733 : List Nat), St M W H [K731, H] ([(6, Own.rows ad728 cap729 64 4 css730 s727.2.1), (2, cel b8 85 [.map (some b7)]), (1, Own.map' keS (fun x => Value.string (bs x)) b7 s727.2.2)] ++ MK bs733) w ∧ Has (bs733.map mk1) 241 a [(4, .pointer (some (⟨b8, 0, none⟩))), (5, .slice ad728 s727.2.1.length cap729), (31, .slice ad_indices indices.length cap_indices), (32, .int .i64 (indices.length : Int)), (33, .int .i64 (s727.1 : Int))] ∧ Rows (RHeading) 4 K731 css730 s727.2.1) ?_ ?_
   ·intro a w hS hA
    exact ⟨none, 0, [], H, [], hS.selH [0, 0] rfl, hA.cut ⟨rfl, rfl, rfl, rfl, rfl, tv⟩, hR240⟩
   ·rintro j s727 y736 hr734 hz735 a w ⟨ad728, cap729, css730, K731, bs733, hS, hA, hR732⟩
    refine TG.ap ?_ hS hA
    unfold m18_1 at hr734
    refine sq (rg (ltI J J J (on (sq ?_))))
    refine ci rfl (fun hc740 => ?_) (fun hc740 => ?_)
    ·have hr741 := if_p hc740 hr734
     refine sk (sq (bk (sq (rg ?_))))
     obtain ⟨x967, hx968, hr969⟩ := bd_some hr741
     obtain ⟨p970, rfl⟩ := h_indices.adr hx968
     obtain ⟨cs971, hcs972, hq973, hr974⟩ := h_indices.at hx968
     have hr975 := hr974
     obtain ⟨ad976, cap977, rfl, hl978⟩ := hr974
     have := hl978.len
     refine iaP U30 Z26 J J J J (lt_of hx968) (ld G26 J J (sS 1 rfl hq973) rfl (a1 rfl (on (sq (sq (rg (m1 rfl ?_)))))))
     obtain ⟨r979, hx980, hr981⟩ := bd_some hr969
     refine clK C50 J J J J (fun w H hH le => w50 hH (hg.mono (le.at 1 rfl)) (hl978.mono (RHeading.mono) (le.at 1 rfl)) hx980) ?_
     rintro v_ K982 ⟨mp983, rfl, hm984⟩
     refine m1 rfl (ex J J J (ex J J J (a1 rfl (a1 rfl (on (sq (rg (m1 rfl (neI J J J (on ?_))))))))))
     refine ci rfl (fun hc988 => ?_) (fun hc988 => ?_)
     ·have hr989 := if_p hc988 hr981
      refine sq (rg (m1 rfl (a1 rfl (a1 rfl (on (rt_ ?_))))))
      cases hr989
      obtain rfl := Fin.out hz735
      cases hr719
      refine rtM (rtMs (A := [(6, Own.rows ad728 cap729 64 4 css730 s727.2.1), (2, cel b8 85 [.map (some b7)]), (1, Own.map' keS (fun x => Value.string (bs x)) b7 s727.2.2)]) (bs := bs733) (rt0 ?_))
      intro a w hS hA
      refine ret2 hA J J J ?_
      exact ⟨⟨_, _, rfl, (Sl.nil _ _ _ _ _ (by decide))⟩, hS.ext⟩
     ·have hr990 := if_n hc988 hr981
      refine sk (sq (sq (rg (m1 rfl (lnL U26 J J (m1 rfl (on ?_)))))))
      obtain ⟨e1184, hl1185, hr1186⟩ := bd_some hr990
      refine jn (fun a w => ∃ (bs1187 : List Nat), St M W H [K982, K731, H] ([(6, Own.rows ad728 cap729 64 4 css730 s727.2.1), (2, cel b8 85 [.map (some b7)]), (1, Own.map' keS (fun x => Value.string (bs x)) b7 e1184)] ++ MK bs1187) w ∧ Has (bs1187.map mk1) 241 a [(4, .pointer (some (⟨b8, 0, none⟩))), (5, .slice ad728 s727.2.1.length cap729), (7, .slice ad976 x967.length cap977), (31, .slice (some p970) indices.length cap_indices), (32, .int .i64 (indices.length : Int)), (33, .int .i64 (s727.1 : Int))]) ?_ ?_
      ·refine bk ?_
       refine lp hl1185 (fun s1188 a w => ∃ (bs1189 : List Nat), St M W H [K982, K731, H] ([(6, Own.rows ad728 cap729 64 4 css730 s727.2.1), (2, cel b8 85 [.map (some b7)]), (1, Own.map' keS (fun x => Value.string (bs x)) b7 s1188.2)] ++ MK bs1189) w ∧ Has (bs1189.map mk1) 241 a [(4, .pointer (some (⟨b8, 0, none⟩))), (5, .slice ad728 s727.2.1.length cap729), (7, .slice ad976 x967.length cap977), (31, .slice (some p970) indices.length cap_indices), (32, .int .i64 (indices.length : Int)), (33, .int .i64 (s727.1 : Int)), (45, .slice ad976 x967.length cap977), (46, .int .i64 (x967.length : Int)), (47, .int .i64 (s1188.1 : Int))]) ?_ ?_
       ·intro a w hS hA
        exact ⟨bs733, hS, hA.cut ⟨rfl, rfl, rfl, rfl, rfl, rfl, rfl, rfl, rfl, tv⟩⟩
       ·rintro j s1188 y1192 hr1190 hz1191 a w ⟨bs1189, hS, hA⟩
        refine TG.ap ?_ hS hA
        unfold m18_2 at hr1190
        refine sq (rg (ltI J J J (on (sq ?_))))
        refine ci rfl (fun hc1196 => ?_) (fun hc1196 => ?_)
        ·have hr1197 := if_p hc1196 hr1190
         refine sk (sq (bk (sq (rg ?_))))
         obtain ⟨x1289, hx1290, hr1291⟩ := bd_some hr1197
         obtain ⟨p1292, rfl⟩ := hl978.adr hx1290
         obtain ⟨cs1293, hcs1294, hq1295, hr1296⟩ := hl978.at hx1290
         have hr1297 := hr1296
         obtain ⟨ad1298, cap1299, ad1301, cap1302, ad1304, cap1305, rfl, hl1300, hl1303, hl1306⟩ := hr1296
         have := hl1300.len
         have := hl1303.len
         have := hl1306.len
         refine iaP U26 Z64 J J J J (lt_of hx1290) (ldA G64 Z64 J J (sS 2 rfl hq1295) rfl (va (cs := [.string (bs x1289.name), .slice ad1298 x1289.variants.length cap1299, .slice ad1301 x1289.also.length cap1302, .slice ad1304 x1289.places.length cap1305]) Tryz.zeroValue64 Z64 J J J J J J J J fun q1307 K1308 hK1309 => (on (sq (rg (ldA G64 Z64 J J (sS 0 rfl hK1309) rfl (clT C51 Tryz.func51 rfl Tryz.ntmps51 J J J J (sq (rg (bI (cs := [.string (bs x1289.name), .slice ad1298 x1289.variants.length cap1299, .slice ad1301 x1289.also.length cap1302, .slice ad1304 x1289.places.length cap1305]) J J J fun q1313 K1314 hK1315 => (a1 rfl ?_)))))))))))
         refine on (sq (rg (fn J J J (a1 rfl (on (rt_ ?_))))))
         intro a w hS hA
         refine ret1 hA J J ?_
         refine ⟨_, rfl, fun a hA => ?_⟩
         refine putK rfl hA hS (on (bk ?_))
         obtain ⟨t1447, hx1448, hr1449⟩ := bd_some hr1291
         refine rfO 3 4 C84 Tryz.func84 rfl Tryz.ntmps84 J J (fun l1383 dB1384 O1386 w => (St M W H [K1314, K1308, K982, K731, H] ([(3, Own.blk l1383 (O1386 .ready none)), (4, Own.blk dB1384 (.deferred (some []))), (6, Own.rows ad728 cap729 64 4 css730 s727.2.1), (2, cel b8 85 [.map (some b7)]), (1, Own.map' keS (fun x => Value.string (bs x)) b7 t1447)] ++ MK bs1189) w)) ?_ ?_
         ·intro l1383 dB1384 O1386 tm1385 hT1387 hO1388
          refine sq (sq (rg (m1 rfl (fb 0 U64 J J J J Z9 (ld G9 J J ((sS 0 rfl hK1315).take 1) rfl ?_)))))
          obtain ⟨t1456, hx1457, hr1458⟩ := bd_some hx1448
          refine yl 3 [] (L1 := (53, .string (bs x1289.name)) :: _) J J J hT1387 hO1388 J J J (fun v w => (v = .bool true ∧ St M W H [K1314, K1308, K982, K731, H] ([(3, Own.blk l1383 (O1386 .ready none)), (4, Own.blk dB1384 (.deferred (some []))), (6, Own.rows ad728 cap729 64 4 css730 s727.2.1), (2, cel b8 85 [.map (some b7)]), (1, Own.map' keS (fun x => Value.string (bs x)) b7 t1456)] ++ MK bs1189) w)) ?_ ?_
          ·refine rg (a1 rfl (on (bR 3 hO1388 rfl (bk (rg (ld G85 J J (sO 2 rfl) rfl (m1 rfl (fb 0 U64 J J J J Z9 (ld G9 J J ((sS 1 rfl hK1309).take 1) rfl ?_)))))))))
           obtain ⟨t1468, hx1469, hr1470⟩ := bd_some hx1457
           refine clI C52 Tryz.func52 rfl Tryz.ntmps52 J J J J (fun v w => (v = .tuple #[] ∧ St M W H [K1314, K1308, K982, K731, H] ([(3, Own.blk l1383 (O1386 .busy none)), (4, Own.blk dB1384 (.deferred (some []))), (6, Own.rows ad728 cap729 64 4 css730 s727.2.1), (2, cel b8 85 [.map (some b7)]), (1, Own.map' keS (fun x => Value.string (bs x)) b7 t1468)] ++ MK bs1189) w)) ?_ ?_
           ·refine rg (m1 rfl (m1 rfl (m1 rfl ?_)))
            obtain ⟨r1471, hx1472, hr1473⟩ := bd_some hx1469
            refine clL C53 J J J J (fun w hS => w53 (Hp.le.refl (hp w)) (l_0 := s1188.2) (.inl ⟨_, rfl, hS.get (t := 1) rfl⟩) x1289.name hx1472) (m1 rfl (m1 rfl (clL C53 J J J J (fun w hS => w53 (Hp.le.refl (hp w)) (l_0 := s1188.2) (.inl ⟨_, rfl, hS.get (t := 1) rfl⟩) x1289.name hx1472) (mpU 1 (ke := keS) (enc := (fun x => Value.string (bs x))) r1471 r1471 U85 U9 J J J J (on ?_)))))
            cases hr1473
            intro a w hS hA
            refine ret0 hA rfl ?_
            exact ⟨_, rfl, ⟨rfl, hS⟩⟩
           ·rintro a w v hA (⟨rfl, hS⟩)
            refine putK rfl hA hS (on ?_)
            cases hr1470
            refine eR 3 none hO1388 rfl fun w hS => ?_
            exact ⟨rfl, hS⟩
          ·rintro a w v hA (⟨rfl, hS⟩)
           refine putK rfl hA hS (nt J J (on (cF J J (sk (sq (rg (fb 1 U64 J J J J Z50 (ld G50 J J (((sS 0 rfl hK1315).drop 1).take 1) rfl (lnL U50 J J (m1 rfl (on ?_)))))))))))
           obtain ⟨e1522, hl1523, hr1524⟩ := bd_some hr1458
           refine jn (fun a w => St M W H [K1314, K1308, K982, K731, H] ([(3, Own.blk l1383 (O1386 .ready none)), (4, Own.blk dB1384 (.deferred (some []))), (6, Own.rows ad728 cap729 64 4 css730 s727.2.1), (2, cel b8 85 [.map (some b7)]), (1, Own.map' keS (fun x => Value.string (bs x)) b7 e1522)] ++ MK bs1189) w ∧ Has [] 22 a []) ?_ ?_
           ·refine bk ?_
            refine lp hl1523 (fun s1525 a w => St M W H [K1314, K1308, K982, K731, H] ([(3, Own.blk l1383 (O1386 .ready none)), (4, Own.blk dB1384 (.deferred (some []))), (6, Own.rows ad728 cap729 64 4 css730 s727.2.1), (2, cel b8 85 [.map (some b7)]), (1, Own.map' keS (fun x => Value.string (bs x)) b7 s1525.2)] ++ MK bs1189) w ∧ Has [] 22 a [(0, .func (.yield l1383) #[] #[]), (11, .slice ad1298 x1289.variants.length cap1299), (12, .int .i64 (x1289.variants.length : Int)), (13, .int .i64 (s1525.1 : Int))]) ?_ ?_
            ·exact cu ⟨rfl, rfl, rfl, rfl, tv⟩
            ·rintro j s1525 y1528 hr1526 hz1527 a w ⟨hS, hA⟩
             refine TG.ap ?_ hS hA
             unfold m18_3 at hr1526
             refine sq (rg (ltI J J J (on (sq ?_))))
             refine ci rfl (fun hc1532 => ?_) (fun hc1532 => ?_)
             ·have hr1533 := if_p hc1532 hr1526
              refine sk (sq (bk (sq (rg ?_))))
              obtain ⟨x1554, hx1555, hr1556⟩ := bd_some hr1533
              obtain ⟨p1557, rfl⟩ := hl1300.adr hx1555
              obtain ⟨cs1558, hcs1559, hq1560, hr1561⟩ := hl1300.at hx1555
              obtain rfl := hr1561
              refine iaP U50 Z9 J J J J (lt_of hx1555) (ld G9 J J (sS 4 rfl hq1560) rfl (a1 rfl (on (sq (rg (m1 rfl (m1 rfl ?_)))))))
              obtain ⟨t1571, hx1572, hr1573⟩ := bd_some hr1556
              refine yl 3 [] (L1 := (53, .string (bs x1554)) :: _) J J J hT1387 hO1388 J J J (fun v w => (v = .bool true ∧ St M W H [K1314, K1308, K982, K731, H] ([(3, Own.blk l1383 (O1386 .ready none)), (4, Own.blk dB1384 (.deferred (some []))), (6, Own.rows ad728 cap729 64 4 css730 s727.2.1), (2, cel b8 85 [.map (some b7)]), (1, Own.map' keS (fun x => Value.string (bs x)) b7 t1571)] ++ MK bs1189) w)) ?_ ?_
              ·refine rg (a1 rfl (on (bR 3 hO1388 rfl (bk (rg (ld G85 J J (sO 2 rfl) rfl (m1 rfl (fb 0 U64 J J J J Z9 (ld G9 J J ((sS 1 rfl hK1309).take 1) rfl ?_)))))))))
               obtain ⟨t1589, hx1590, hr1591⟩ := bd_some hx1572
               refine clI C52 Tryz.func52 rfl Tryz.ntmps52 J J J J (fun v w => (v = .tuple #[] ∧ St M W H [K1314, K1308, K982, K731, H] ([(3, Own.blk l1383 (O1386 .busy none)), (4, Own.blk dB1384 (.deferred (some []))), (6, Own.rows ad728 cap729 64 4 css730 s727.2.1), (2, cel b8 85 [.map (some b7)]), (1, Own.map' keS (fun x => Value.string (bs x)) b7 t1589)] ++ MK bs1189) w)) ?_ ?_
               ·refine rg (m1 rfl (m1 rfl (m1 rfl ?_)))
                obtain ⟨r1592, hx1593, hr1594⟩ := bd_some hx1590
                refine clL C53 J J J J (fun w hS => w53 (Hp.le.refl (hp w)) (l_0 := s1525.2) (.inl ⟨_, rfl, hS.get (t := 1) rfl⟩) x1554 hx1593) (m1 rfl (m1 rfl ?_))
                obtain ⟨r1595, hx1596, hr1597⟩ := bd_some hr1594
                refine clL C53 J J J J (fun w hS => w53 (Hp.le.refl (hp w)) (l_0 := s1525.2) (.inl ⟨_, rfl, hS.get (t := 1) rfl⟩) x1289.name hx1596) (mpU 1 (ke := keS) (enc := (fun x => Value.string (bs x))) r1592 r1595 U85 U9 J J J J (on ?_))
                cases hr1597
                intro a w hS hA
                refine ret0 hA rfl ?_
                exact ⟨_, rfl, ⟨rfl, hS⟩⟩
               ·rintro a w v hA (⟨rfl, hS⟩)
                refine putK rfl hA hS (on ?_)
                cases hr1591
                refine eR 3 none hO1388 rfl fun w hS => ?_
                exact ⟨rfl, hS⟩
              ·rintro a w v hA (⟨rfl, hS⟩)
               refine putK rfl hA hS (nt J J (on (cF J J (sk (rg (adI J J J (by omega) (m1 rfl (on ?_))))))))
               cases hr1573
               intro a w hS hA
               exact ⟨_, hz1527, hS, hA.cut ⟨rfl, rfl, rfl, rfl, tv⟩⟩
             ·have hr1598 := if_n hc1532 hr1526
              refine xt rfl ?_
              cases hr1598
              obtain rfl := Fin.out hz1527
              exact cu tv
           ·rintro a w ⟨hS, hA⟩
            apply TG.ap ?_ hS hA
            cases hr1524
            intro a w hS hA
            refine ret0 hA rfl ?_
            exact ⟨_, rfl, hS⟩
         ·rintro l1383 dB1384 O1386 tm1385 a w hO1388 hA (hS)
          refine TG.ap ?_ hS hA
          refine elN 3 hO1388 rfl (rg (adI J J J (by omega) (m1 rfl (on (TG.absM (A := [(4, Own.blk dB1384 (.deferred (some []))), (6, Own.rows ad728 cap729 64 4 css730 s727.2.1), (2, cel b8 85 [.map (some b7)]), (1, Own.map' keS (fun x => Value.string (bs x)) b7 t1447)]) (bs := bs1189) 4 J J ?_)))))
          cases hr1449
          intro a w hS hA
          exact ⟨_, hz1191, (dB1384 :: bs1189), hS.selH [2, 3, 4] rfl, hA.cut ⟨rfl, rfl, rfl, rfl, rfl, rfl, rfl, rfl, rfl, tv⟩⟩
        ·have hr1599 := if_n hc1196 hr1190
         refine xt rfl ?_
         cases hr1599
         obtain rfl := Fin.out hz1191
         intro a w hS hA
         exact ⟨bs1189, hS, hA.cut ⟨rfl, rfl, rfl, rfl, rfl, rfl, tv⟩⟩
      ·rintro a w ⟨bs1187, hS, hA⟩
       apply TG.ap ?_ hS hA
       refine rg (m1 rfl (m1 rfl ?_))
       obtain ⟨hk1600, hr1601⟩ := chk_some hr1186
       have := lenA s727.2.1 x967
       refine TG.pack (fun K => Sl (RHeading) 4 K ad976 cap977 x967 ∧ Rows (RHeading) 4 K css730 s727.2.1) (fun H le => ⟨hl978.mono (RHeading.mono) (le.at 2 rfl), hR732.mono (RHeading.mono) (le.at 1 rfl)⟩) fun K1604 ⟨hm1605, hR1606⟩ => (apR 6 (l := s727.2.1) (m := x967) T11.E26 J J J J J J hm1605 hR1606 RHeading.one rfl hk1600 fun ad1602 cap1603 css1608 hR1607 => (a1 rfl (on (rg (adI J J J (by omega) (m1 rfl (on ?_)))))))
       cases hr1601
       intro a w hS hA
       exact ⟨_, hz735, ad1602, cap1603, css1608, K1604, bs1187, hS.selH [0, 3] rfl, hA.cut ⟨rfl, rfl, rfl, rfl, rfl, tv⟩, hR1607⟩
    ·have hr1609 := if_n hc740 hr734
     refine xt rfl ?_
     cases hr1609
     obtain rfl := Fin.out hz735
     intro a w hS hA
     exact ⟨_, rfl, ad728, cap729, css730, K731, bs733, hS, hA.cut ⟨rfl, rfl, tv⟩, hR732⟩
  ·rintro a w ⟨t720, rfl, ad721, cap722, css723, K724, bs726, hS, hA, hR725⟩
   apply TG.ap ?_ hS hA
   refine sq (rg (mkM 7 keS (fun v : Value => v) rfl fun b1610 => ?_))
   have hF1611 := Fam.nil (κ := Bytes) hvG
   refine TG.eq (σ' := ([(7, Own.map' keS (fun v : Value => v) b1610 ([] : List (Bytes × Value))), (6, Own.rows ad721 cap722 64 4 css723 t720.1), (2, cel b8 85 [.map (some b7)]), (1, Own.map' keS (fun x => Value.string (bs x)) b7 t720.2)] ++ (famO entG ([] : List GA) ([] : List (Bytes × grown)) ++ MK bs726))) rfl (a1 rfl (on (sq (sq (rg (m1 rfl (TG.len 6 rfl fun _ => (lnL U26 J J (m1 rfl (on ?_))))))))))
   obtain ⟨e1872, hl1873, hr1874⟩ := bd_some hr719
   refine jn (fun a w => ∃ (hs1877 : List (Bytes × Value)) (az1875 : List GA), St M W H [K724, H] ([(7, Own.map' keS (fun v : Value => v) b1610 hs1877), (6, Own.rows ad721 cap722 64 4 css723 t720.1), (2, cel b8 85 [.map (some b7)]), (1, Own.map' keS (fun x => Value.string (bs x)) b7 t720.2)] ++ (famO entG az1875 e1872 ++ MK bs726)) w ∧ Has (bs726.map mk1) 241 a [(4, .pointer (some (⟨b8, 0, none⟩))), (13, .map (some b1610))] ∧ Fam hvG hs1877 az1875 e1872) ?_ ?_
   ·refine bk ?_
    refine lp hl1873 (fun s1878 a w => ∃ (hs1881 : List (Bytes × Value)) (az1879 : List GA), St M W H [K724, H] ([(7, Own.map' keS (fun v : Value => v) b1610 hs1881), (6, Own.rows ad721 cap722 64 4 css723 t720.1), (2, cel b8 85 [.map (some b7)]), (1, Own.map' keS (fun x => Value.string (bs x)) b7 t720.2)] ++ (famO entG az1879 s1878.2 ++ MK bs726)) w ∧ Has (bs726.map mk1) 241 a [(4, .pointer (some (⟨b8, 0, none⟩))), (13, .map (some b1610)), (65, .slice ad721 t720.1.length cap722), (66, .int .i64 (t720.1.length : Int)), (67, .int .i64 (s1878.1 : Int))] ∧ Fam hvG hs1881 az1879 s1878.2) ?_ ?_
    ·intro a w hS hA
     exact ⟨([] : List (Bytes × Value)), ([] : List GA), hS, hA.cut ⟨rfl, rfl, rfl, rfl, rfl, tv⟩, hF1611⟩
    ·rintro j s1878 y1884 hr1882 hz1883 a w ⟨hs1881, az1879, hS, hA, hF1880⟩
     refine TG.ap ?_ hS hA
     unfold m18_4 at hr1882
     refine sq (rg (ltI J J J (on (sq ?_))))
     refine ci rfl (fun hc1888 => ?_) (fun hc1888 => ?_)
     ·have hr1889 := if_p hc1888 hr1882
      refine sk (sq (bk (sq (rg ?_))))
      obtain ⟨x1969, hx1970, hr1971⟩ := bd_some hr1889
      refine TG.addr 6 rfl (lt_of0 hx1970) fun b1972 h => ?_; subst h
      obtain ⟨cs1973, hr1974, hl1975, hcs1976, sc1977⟩ := sER hR725 hx1970
      have hr1978 := hr1974
      obtain ⟨ad1979, cap1980, ad1982, cap1983, ad1985, cap1986, rfl, hl1981, hl1984, hl1987⟩ := hr1974
      have := hl1981.len
      have := hl1984.len
      have := hl1987.len
      refine iaP U26 Z64 J J J J (lt_of hx1970) (ldA G64 Z64 J J (sc1977 (t := 6) rfl) rfl (va (cs := [.string (bs x1969.name), .slice ad1979 x1969.variants.length cap1980, .slice ad1982 x1969.also.length cap1983, .slice ad1985 x1969.places.length cap1986]) Tryz.zeroValue64 Z64 J J J J J J J J fun q1988 K1989 hK1990 => (on (sq (rg (ld G85 J J (sO 2 rfl) rfl (fb 0 U64 J J J J Z9 (ld G9 J J ((sS 0 rfl hK1990).take 1) rfl ?_))))))))
      obtain ⟨r1991, hx1992, hr1993⟩ := bd_some hr1971
      refine clL C53 J J J J (fun w hS => w53 (Hp.le.refl (hp w)) (l_0 := t720.2) (.inl ⟨_, rfl, hS.get (t := 1) rfl⟩) x1969.name hx1992) (a1 rfl (on (sq (sq (rg (m1 rfl (m1 rfl (lkR (ke := keS) r1991 U94 U9 Tryz.zeroValue96 J J J (mO 7 rfl) rfl (eqPn U96 J J (ptrG hF1880 r1991) (on ?_))))))))))
      obtain ⟨t1999, hx2000, hr2001⟩ := bd_some hr1993
      refine jn (fun a w => ∃ (hs2004 : List (Bytes × Value)) (az2002 : List GA), St M W H [K1989, K724, H] ([(7, Own.map' keS (fun v : Value => v) b1610 hs2004), (6, Own.rows (some ⟨b1972, 0, none⟩) cap722 64 4 css723 t720.1), (2, cel b8 85 [.map (some b7)]), (1, Own.map' keS (fun x => Value.string (bs x)) b7 t720.2)] ++ (famO entG az2002 t1999 ++ MK bs726)) w ∧ Has (bs726.map mk1) 241 a [(4, .pointer (some (⟨b8, 0, none⟩))), (13, .map (some b1610)), (15, .pointer (some q1988)), (16, .string (bs r1991)), (65, .slice (some ⟨b1972, 0, none⟩) t720.1.length cap722), (66, .int .i64 (t720.1.length : Int)), (67, .int .i64 (s1878.1 : Int))] ∧ Fam hvG hs2004 az2002 t1999) ?_ ?_
      ·refine cb rfl (fun hc2005 => ?_) (fun hc2005 => ?_)
       ·replace hc2005 := nbt hc2005
        have hr2006 := if_f hc2005 hx2000
        refine rg (m1 rfl (m1 rfl (bu (cs := [.string (bs []), .slice none 0 0, .slice none 0 0, .slice none 0 0, .slice none 0 0]) T11.B98 J J J (bO 8 J J J fun b2007 => (mpU (ke := keS) (enc := fun v : Value => v) 7 r1991 (.pointer (some ⟨b2007, 0, none⟩)) U94 U9 J J J J (insG [(8, cel b2007 98 [.string (bs []), .slice none 0 0, .slice none 0 0, .slice none 0 0, .slice none 0 0]), (7, Own.map' keS (fun v : Value => v) b1610 (put hs1881 r1991 (.pointer (some ⟨b2007, 0, none⟩)))), (6, Own.rows (some ⟨b1972, 0, none⟩) cap722 64 4 css723 t720.1), (2, cel b8 85 [.map (some b7)]), (1, Own.map' keS (fun x => Value.string (bs x)) b7 t720.2)] (A' := [(7, Own.map' keS (fun v : Value => v) b1610 (put hs1881 r1991 (.pointer (some ⟨b2007, 0, none⟩)))), (6, Own.rows (some ⟨b1972, 0, none⟩) cap722 64 4 css723 t720.1), (2, cel b8 85 [.map (some b7)]), (1, Own.map' keS (fun x => Value.string (bs x)) b7 t720.2)]) 8 hF1880 hc2005 J J ?_))))))
        have hF2008 := insF hF1880 hc2005 b2007
        refine TG.eq (σ' := ([(7, Own.map' keS (fun v : Value => v) b1610 (put hs1881 r1991 (.pointer (some ⟨b2007, 0, none⟩)))), (6, Own.rows (some ⟨b1972, 0, none⟩) cap722 64 4 css723 t720.1), (2, cel b8 85 [.map (some b7)]), (1, Own.map' keS (fun x => Value.string (bs x)) b7 t720.2)] ++ (famO entG (az1879 ++ [(b2007, (none, 0), (none, 0), (none, 0), (none, 0))]) (put s1878.2 r1991 zeroG) ++ MK bs726))) rfl (on ?_)
        cases hr2006
        intro a w hS hA
        exact ⟨(put hs1881 r1991 (.pointer (some ⟨b2007, 0, none⟩))), (az1879 ++ [(b2007, (none, 0), (none, 0), (none, 0), (none, 0))]), hS, hA.cut ⟨rfl, rfl, rfl, rfl, rfl, rfl, rfl, tv⟩, hF2008⟩
       ·replace hc2005 := nbf hc2005
        have hr2009 := if_p hc2005 hx2000
        refine sk ?_
        cases hr2009
        intro a w hS hA
        exact ⟨hs1881, az1879, hS, hA.cut ⟨rfl, rfl, rfl, rfl, rfl, rfl, rfl, tv⟩, hF1880⟩
      ·rintro a w ⟨hs2004, az2002, hS, hA, hF2003⟩
       refine TG.ap ?_ hS hA
       refine sq (rg (m1 rfl (m1 rfl ?_)))
       obtain ⟨y2010, hx2011, hr2012⟩ := bd_some hr2001
       obtain ⟨j2013, b2014, ad2015, cap2016, ad2017, cap2018, ad2019, cap2020, ad2021, cap2022, ha2023, hm2024, he2025, hp2026⟩ := lookG hF2003 hx2011
       refine lkR (ke := keS) r1991 U94 U9 Tryz.zeroValue96 J J J (mO 7 rfl) he2025 (focG [(7, Own.map' keS (fun v : Value => v) b1610 hs2004), (6, Own.rows (some ⟨b1972, 0, none⟩) cap722 64 4 css723 t720.1), (2, cel b8 85 [.map (some b7)]), (1, Own.map' keS (fun x => Value.string (bs x)) b7 t720.2)] 9 10 11 12 13 ha2023 hm2024 (TG.eq (σ' := ([(9, cel b2014 98 [.string (bs y2010.heading.name), .slice ad2015 y2010.heading.variants.length cap2016, .slice ad2017 y2010.heading.also.length cap2018, .slice ad2019 y2010.heading.places.length cap2020, .slice ad2021 y2010.heads.length cap2022]), (10, Own.list ad2015 cap2016 9 1 encS y2010.heading.variants), (11, Own.list ad2017 cap2018 9 1 encS y2010.heading.also), (12, Own.list ad2019 cap2020 81 3 encPlace y2010.heading.places), (13, Own.list ad2021 cap2022 9 1 encS y2010.heads), (7, Own.map' keS (fun v : Value => v) b1610 hs2004), (6, Own.rows (some ⟨b1972, 0, none⟩) cap722 64 4 css723 t720.1), (2, cel b8 85 [.map (some b7)]), (1, Own.map' keS (fun x => Value.string (bs x)) b7 t720.2)] ++ (famO entG (az2002.eraseIdx j2013) (t1999.eraseIdx j2013) ++ MK bs726))) rfl (a1 rfl (on (sq ?_)))))
       obtain ⟨hk2035, hr2036⟩ := chk_some hr2012
       have := lenA y2010.heads ([x1969.name] : List Bytes)
       refine drG3 9 [8] [] mixed (fun _ _ _ _ _ h => h) (by kernel_rfl) (by kernel_rfl) (by kernel_rfl) rfl (by kernel_rfl) (.nil) (DC.detA J J J (fun τ a w K hS hA hF => TG.pa hS hA (m1 rfl fin1)) (DC.det (fun τ => τ = ([(9, cel b2014 98 [.string (bs y2010.heading.name), .slice ad2015 y2010.heading.variants.length cap2016, .slice ad2017 y2010.heading.also.length cap2018, .slice ad2019 y2010.heading.places.length cap2020, .slice ad2021 y2010.heads.length cap2022]), (10, Own.list ad2015 cap2016 9 1 encS y2010.heading.variants), (11, Own.list ad2017 cap2018 9 1 encS y2010.heading.also), (12, Own.list ad2019 cap2020 81 3 encPlace y2010.heading.places), (13, Own.list ad2021 cap2022 9 1 encS y2010.heads), (7, Own.map' keS (fun v : Value => v) b1610 hs2004), (6, Own.rows (some ⟨b1972, 0, none⟩) cap722 64 4 css723 t720.1), (2, cel b8 85 [.map (some b7)]), (1, Own.map' keS (fun x => Value.string (bs x)) b7 t720.2)] ++ (famO entG (az2002.eraseIdx j2013) (t1999.eraseIdx j2013) ++ MK bs726))) J J (by kernel_rfl) tv J J (fun τ hτ a w K hS hA hF => by subst hτ <;> exact TG.pa hS hA (m1 rfl fin1)) (DC.det (fun τ => τ = ([(9, cel b2014 98 [.string (bs y2010.heading.name), .slice ad2015 y2010.heading.variants.length cap2016, .slice ad2017 y2010.heading.also.length cap2018, .slice ad2019 y2010.heading.places.length cap2020, .slice ad2021 y2010.heads.length cap2022]), (10, Own.list ad2015 cap2016 9 1 encS y2010.heading.variants), (11, Own.list ad2017 cap2018 9 1 encS y2010.heading.also), (12, Own.list ad2019 cap2020 81 3 encPlace y2010.heading.places), (13, Own.list ad2021 cap2022 9 1 encS y2010.heads), (7, Own.map' keS (fun v : Value => v) b1610 hs2004), (6, Own.rows (some ⟨b1972, 0, none⟩) cap722 64 4 css723 t720.1), (2, cel b8 85 [.map (some b7)]), (1, Own.map' keS (fun x => Value.string (bs x)) b7 t720.2)] ++ (famO entG (az2002.eraseIdx j2013) (t1999.eraseIdx j2013) ++ MK bs726))) J J (by kernel_rfl) tv J J (fun τ hτ a w K hS hA hF => by subst hτ <;> exact TG.pa hS hA (nl J J fin1)) (DC.det (fun τ => τ = ([(9, cel b2014 98 [.string (bs y2010.heading.name), .slice ad2015 y2010.heading.variants.length cap2016, .slice ad2017 y2010.heading.also.length cap2018, .slice ad2019 y2010.heading.places.length cap2020, .slice ad2021 y2010.heads.length cap2022]), (10, Own.list ad2015 cap2016 9 1 encS y2010.heading.variants), (11, Own.list ad2017 cap2018 9 1 encS y2010.heading.also), (12, Own.list ad2019 cap2020 81 3 encPlace y2010.heading.places), (13, Own.list ad2021 cap2022 9 1 encS y2010.heads), (7, Own.map' keS (fun v : Value => v) b1610 hs2004), (6, Own.rows (some ⟨b1972, 0, none⟩) cap722 64 4 css723 t720.1), (2, cel b8 85 [.map (some b7)]), (1, Own.map' keS (fun x => Value.string (bs x)) b7 t720.2)] ++ (famO entG (az2002.eraseIdx j2013) (t1999.eraseIdx j2013) ++ MK bs726))) J J (by kernel_rfl) tv J J (fun τ hτ a w K hS hA hF => by subst hτ <;> exact TG.pa hS hA (fb 4 U98 J J J J Z50 fin1)) (DC.det (fun τ => τ = ([(9, cel b2014 98 [.string (bs y2010.heading.name), .slice ad2015 y2010.heading.variants.length cap2016, .slice ad2017 y2010.heading.also.length cap2018, .slice ad2019 y2010.heading.places.length cap2020, .slice ad2021 y2010.heads.length cap2022]), (10, Own.list ad2015 cap2016 9 1 encS y2010.heading.variants), (11, Own.list ad2017 cap2018 9 1 encS y2010.heading.also), (12, Own.list ad2019 cap2020 81 3 encPlace y2010.heading.places), (13, Own.list ad2021 cap2022 9 1 encS y2010.heads), (7, Own.map' keS (fun v : Value => v) b1610 hs2004), (6, Own.rows (some ⟨b1972, 0, none⟩) cap722 64 4 css723 t720.1), (2, cel b8 85 [.map (some b7)]), (1, Own.map' keS (fun x => Value.string (bs x)) b7 t720.2)] ++ (famO entG (az2002.eraseIdx j2013) (t1999.eraseIdx j2013) ++ MK bs726))) J J (by kernel_rfl) tv J J (fun τ hτ a w K hS hA hF => by subst hτ <;> exact TG.pa hS hA (ld G50 J J ((sO 9 rfl).drop 4) rfl fin1)) (DC.det (fun τ => τ = ([(9, cel b2014 98 [.string (bs y2010.heading.name), .slice ad2015 y2010.heading.variants.length cap2016, .slice ad2017 y2010.heading.also.length cap2018, .slice ad2019 y2010.heading.places.length cap2020, .slice ad2021 y2010.heads.length cap2022]), (10, Own.list ad2015 cap2016 9 1 encS y2010.heading.variants), (11, Own.list ad2017 cap2018 9 1 encS y2010.heading.also), (12, Own.list ad2019 cap2020 81 3 encPlace y2010.heading.places), (13, Own.list ad2021 cap2022 9 1 encS y2010.heads), (7, Own.map' keS (fun v : Value => v) b1610 hs2004), (6, Own.rows (some ⟨b1972, 0, none⟩) cap722 64 4 css723 t720.1), (2, cel b8 85 [.map (some b7)]), (1, Own.map' keS (fun x => Value.string (bs x)) b7 t720.2)] ++ (famO entG (az2002.eraseIdx j2013) (t1999.eraseIdx j2013) ++ MK bs726))) J J (by kernel_rfl) tv J J (fun τ hτ a w K hS hA hF => by subst hτ <;> exact TG.pa hS hA (fb 0 U64 J J J J Z9 fin1)) (DC.det (fun τ => τ = ([(9, cel b2014 98 [.string (bs y2010.heading.name), .slice ad2015 y2010.heading.variants.length cap2016, .slice ad2017 y2010.heading.also.length cap2018, .slice ad2019 y2010.heading.places.length cap2020, .slice ad2021 y2010.heads.length cap2022]), (10, Own.list ad2015 cap2016 9 1 encS y2010.heading.variants), (11, Own.list ad2017 cap2018 9 1 encS y2010.heading.also), (12, Own.list ad2019 cap2020 81 3 encPlace y2010.heading.places), (13, Own.list ad2021 cap2022 9 1 encS y2010.heads), (7, Own.map' keS (fun v : Value => v) b1610 hs2004), (6, Own.rows (some ⟨b1972, 0, none⟩) cap722 64 4 css723 t720.1), (2, cel b8 85 [.map (some b7)]), (1, Own.map' keS (fun x => Value.string (bs x)) b7 t720.2)] ++ (famO entG (az2002.eraseIdx j2013) (t1999.eraseIdx j2013) ++ MK bs726))) J J (by kernel_rfl) tv J J (fun τ hτ a w K hS hA hF => by subst hτ <;> exact TG.pa hS hA (ld G9 J J ((sS 1 rfl hK1990).take 1) rfl fin1)) ?_)))))))
       refine DC.und (α := Option Addr × Nat) (none, 0) (fun q => .slice q.1 1 q.2) (fun (q : Option Addr × Nat) K => Sl (Flat encS) 1 K q.1 q.2 ([x1969.name] : List Bytes)) (fun τ => τ = ([(9, cel b2014 98 [.string (bs y2010.heading.name), .slice ad2015 y2010.heading.variants.length cap2016, .slice ad2017 y2010.heading.also.length cap2018, .slice ad2019 y2010.heading.places.length cap2020, .slice ad2021 y2010.heads.length cap2022]), (10, Own.list ad2015 cap2016 9 1 encS y2010.heading.variants), (11, Own.list ad2017 cap2018 9 1 encS y2010.heading.also), (12, Own.list ad2019 cap2020 81 3 encPlace y2010.heading.places), (13, Own.list ad2021 cap2022 9 1 encS y2010.heads), (7, Own.map' keS (fun v : Value => v) b1610 hs2004), (6, Own.rows (some ⟨b1972, 0, none⟩) cap722 64 4 css723 t720.1), (2, cel b8 85 [.map (some b7)]), (1, Own.map' keS (fun x => Value.string (bs x)) b7 t720.2)] ++ (famO entG (az2002.eraseIdx j2013) (t1999.eraseIdx j2013) ++ MK bs726))) J J (by kernel_rfl) tv (fun _ _ _ h x => x.mono (Flat.mono _) h) (by kernel_rfl) J J (fun τ hτ a w K hS hA hF => by subst hτ <;> exact TG.pa hS hA (bS (cs := [.string (bs x1969.name)]) T11.E50 J J J J fun q2027 K2028 hq2029 hK2030 => by
         have hl2031 : Sl (Flat encS) 1 K2028 (some q2027) 1 ([x1969.name] : List Bytes) := Sl.litR (css := [[.string (bs x1969.name)]]) (l := ([x1969.name] : List Bytes)) ⟨⟨rfl, rfl, rfl⟩, tv⟩ hq2029 hK2030 rfl
         have := hl2031.len
         exact finU (f := fun q => .slice q.1 1 q.2) (G := (fun (q : Option Addr × Nat) K => Sl (Flat encS) 1 K q.1 q.2 ([x1969.name] : List Bytes))) (_, _) (fun _ _ _ h x => x.mono (Flat.mono _) h) hl2031)) ?_
       rintro ⟨ad2033, cap2034⟩
       refine DC.turn (α := Option Addr × Nat) (none, 0) (fun q => .slice q.1 ((y2010.heads ++ ([x1969.name] : List Bytes)).length) q.2) (fun _ _ => True) (fun q => ([(9, cel b2014 98 [.string (bs y2010.heading.name), .slice ad2015 y2010.heading.variants.length cap2016, .slice ad2017 y2010.heading.also.length cap2018, .slice ad2019 y2010.heading.places.length cap2020, .slice ad2021 y2010.heads.length cap2022]), (10, Own.list ad2015 cap2016 9 1 encS y2010.heading.variants), (11, Own.list ad2017 cap2018 9 1 encS y2010.heading.also), (12, Own.list ad2019 cap2020 81 3 encPlace y2010.heading.places), (13, Own.list q.1 q.2 9 1 encS (y2010.heads ++ ([x1969.name] : List Bytes))), (7, Own.map' keS (fun v : Value => v) b1610 hs2004), (6, Own.rows (some ⟨b1972, 0, none⟩) cap722 64 4 css723 t720.1), (2, cel b8 85 [.map (some b7)]), (1, Own.map' keS (fun x => Value.string (bs x)) b7 t720.2)] ++ (famO entG (az2002.eraseIdx j2013) (t1999.eraseIdx j2013) ++ MK bs726))) rfl (fun _ _ _ _ h => h) (by kernel_rfl) J J (fun a w K hS hA hF => TG.pa hS hA (apS 13 (enc := encS) (l := y2010.heads) (m := ([x1969.name] : List Bytes)) T11.E50 J J J J J J (hF.1 rfl) 0 rfl (fun _ => rfl) (fun _ => rfl) rfl hk2035 fun ad2037 cap2038 => finT (f := fun q => .slice q.1 ((y2010.heads ++ ([x1969.name] : List Bytes)).length) q.2) (G := fun _ _ => True) (σ1 := fun q => ([(9, cel b2014 98 [.string (bs y2010.heading.name), .slice ad2015 y2010.heading.variants.length cap2016, .slice ad2017 y2010.heading.also.length cap2018, .slice ad2019 y2010.heading.places.length cap2020, .slice ad2021 y2010.heads.length cap2022]), (10, Own.list ad2015 cap2016 9 1 encS y2010.heading.variants), (11, Own.list ad2017 cap2018 9 1 encS y2010.heading.also), (12, Own.list ad2019 cap2020 81 3 encPlace y2010.heading.places), (13, Own.list q.1 q.2 9 1 encS (y2010.heads ++ ([x1969.name] : List Bytes))), (7, Own.map' keS (fun v : Value => v) b1610 hs2004), (6, Own.rows (some ⟨b1972, 0, none⟩) cap722 64 4 css723 t720.1), (2, cel b8 85 [.map (some b7)]), (1, Own.map' keS (fun x => Value.string (bs x)) b7 t720.2)] ++ (famO entG (az2002.eraseIdx j2013) (t1999.eraseIdx j2013) ++ MK bs726))) (_, _) tv)) ?_
       rintro ⟨ad2037, cap2038⟩
       refine DC.nil fun K2039 hF => ?_
       obtain ⟨_, hu2032, _⟩ := hF
       have := hu2032.len
       refine nl J J (fb 4 U98 J J J J Z50 (sto 9 (cs := [.slice ad2037 ((y2010.heads ++ ([x1969.name] : List Bytes)).length) cap2038]) Z50 J J J J J J J (on (sq ?_))))
       obtain ⟨hk2040, hr2041⟩ := chk_some hr2036
       have := lenA y2010.heading.variants x1969.variants
       refine drG3 9 [8] [] mixed (fun _ _ _ _ _ h => h) (by kernel_rfl) (by kernel_rfl) (by kernel_rfl) rfl (by kernel_rfl) (.nil) (DC.detA J J J (fun τ a w K hS hA hF => TG.pa hS hA (m1 rfl fin1)) (DC.det (fun τ => τ = ([(9, cel b2014 98 [.string (bs y2010.heading.name), .slice ad2015 y2010.heading.variants.length cap2016, .slice ad2017 y2010.heading.also.length cap2018, .slice ad2019 y2010.heading.places.length cap2020, .slice ad2037 ((y2010.heads ++ ([x1969.name] : List Bytes)).length) cap2038]), (10, Own.list ad2015 cap2016 9 1 encS y2010.heading.variants), (11, Own.list ad2017 cap2018 9 1 encS y2010.heading.also), (12, Own.list ad2019 cap2020 81 3 encPlace y2010.heading.places), (13, Own.list ad2037 cap2038 9 1 encS (y2010.heads ++ ([x1969.name] : List Bytes))), (7, Own.map' keS (fun v : Value => v) b1610 hs2004), (6, Own.rows (some ⟨b1972, 0, none⟩) cap722 64 4 css723 t720.1), (2, cel b8 85 [.map (some b7)]), (1, Own.map' keS (fun x => Value.string (bs x)) b7 t720.2)] ++ (famO entG (az2002.eraseIdx j2013) (t1999.eraseIdx j2013) ++ MK bs726))) J J (by kernel_rfl) tv J J (fun τ hτ a w K hS hA hF => by subst hτ <;> exact TG.pa hS hA (m1 rfl fin1)) (DC.det (fun τ => τ = ([(9, cel b2014 98 [.string (bs y2010.heading.name), .slice ad2015 y2010.heading.variants.length cap2016, .slice ad2017 y2010.heading.also.length cap2018, .slice ad2019 y2010.heading.places.length cap2020, .slice ad2037 ((y2010.heads ++ ([x1969.name] : List Bytes)).length) cap2038]), (10, Own.list ad2015 cap2016 9 1 encS y2010.heading.variants), (11, Own.list ad2017 cap2018 9 1 encS y2010.heading.also), (12, Own.list ad2019 cap2020 81 3 encPlace y2010.heading.places), (13, Own.list ad2037 cap2038 9 1 encS (y2010.heads ++ ([x1969.name] : List Bytes))), (7, Own.map' keS (fun v : Value => v) b1610 hs2004), (6, Own.rows (some ⟨b1972, 0, none⟩) cap722 64 4 css723 t720.1), (2, cel b8 85 [.map (some b7)]), (1, Own.map' keS (fun x => Value.string (bs x)) b7 t720.2)] ++ (famO entG (az2002.eraseIdx j2013) (t1999.eraseIdx j2013) ++ MK bs726))) J J (by kernel_rfl) tv J J (fun τ hτ a w K hS hA hF => by subst hτ <;> exact TG.pa hS hA (nl J J fin1)) (DC.det (fun τ => τ = ([(9, cel b2014 98 [.string (bs y2010.heading.name), .slice ad2015 y2010.heading.variants.length cap2016, .slice ad2017 y2010.heading.also.length cap2018, .slice ad2019 y2010.heading.places.length cap2020, .slice ad2037 ((y2010.heads ++ ([x1969.name] : List Bytes)).length) cap2038]), (10, Own.list ad2015 cap2016 9 1 encS y2010.heading.variants), (11, Own.list ad2017 cap2018 9 1 encS y2010.heading.also), (12, Own.list ad2019 cap2020 81 3 encPlace y2010.heading.places), (13, Own.list ad2037 cap2038 9 1 encS (y2010.heads ++ ([x1969.name] : List Bytes))), (7, Own.map' keS (fun v : Value => v) b1610 hs2004), (6, Own.rows (some ⟨b1972, 0, none⟩) cap722 64 4 css723 t720.1), (2, cel b8 85 [.map (some b7)]), (1, Own.map' keS (fun x => Value.string (bs x)) b7 t720.2)] ++ (famO entG (az2002.eraseIdx j2013) (t1999.eraseIdx j2013) ++ MK bs726))) J J (by kernel_rfl) tv J J (fun τ hτ a w K hS hA hF => by subst hτ <;> exact TG.pa hS hA (fb 0 U98 J J J J Z64 fin1)) (DC.det (fun τ => τ = ([(9, cel b2014 98 [.string (bs y2010.heading.name), .slice ad2015 y2010.heading.variants.length cap2016, .slice ad2017 y2010.heading.also.length cap2018, .slice ad2019 y2010.heading.places.length cap2020, .slice ad2037 ((y2010.heads ++ ([x1969.name] : List Bytes)).length) cap2038]), (10, Own.list ad2015 cap2016 9 1 encS y2010.heading.variants), (11, Own.list ad2017 cap2018 9 1 encS y2010.heading.also), (12, Own.list ad2019 cap2020 81 3 encPlace y2010.heading.places), (13, Own.list ad2037 cap2038 9 1 encS (y2010.heads ++ ([x1969.name] : List Bytes))), (7, Own.map' keS (fun v : Value => v) b1610 hs2004), (6, Own.rows (some ⟨b1972, 0, none⟩) cap722 64 4 css723 t720.1), (2, cel b8 85 [.map (some b7)]), (1, Own.map' keS (fun x => Value.string (bs x)) b7 t720.2)] ++ (famO entG (az2002.eraseIdx j2013) (t1999.eraseIdx j2013) ++ MK bs726))) J J (by kernel_rfl) tv J J (fun τ hτ a w K hS hA hF => by subst hτ <;> exact TG.pa hS hA (fb 1 U64 J J J J Z50 fin1)) (DC.det (fun τ => τ = ([(9, cel b2014 98 [.string (bs y2010.heading.name), .slice ad2015 y2010.heading.variants.length cap2016, .slice ad2017 y2010.heading.also.length cap2018, .slice ad2019 y2010.heading.places.length cap2020, .slice ad2037 ((y2010.heads ++ ([x1969.name] : List Bytes)).length) cap2038]), (10, Own.list ad2015 cap2016 9 1 encS y2010.heading.variants), (11, Own.list ad2017 cap2018 9 1 encS y2010.heading.also), (12, Own.list ad2019 cap2020 81 3 encPlace y2010.heading.places), (13, Own.list ad2037 cap2038 9 1 encS (y2010.heads ++ ([x1969.name] : List Bytes))), (7, Own.map' keS (fun v : Value => v) b1610 hs2004), (6, Own.rows (some ⟨b1972, 0, none⟩) cap722 64 4 css723 t720.1), (2, cel b8 85 [.map (some b7)]), (1, Own.map' keS (fun x => Value.string (bs x)) b7 t720.2)] ++ (famO entG (az2002.eraseIdx j2013) (t1999.eraseIdx j2013) ++ MK bs726))) J J (by kernel_rfl) tv J J (fun τ hτ a w K hS hA hF => by subst hτ <;> exact TG.pa hS hA (ld G50 J J (((sO 9 rfl).drop 1).take 1) rfl fin1)) (DC.det (fun τ => τ = ([(9, cel b2014 98 [.string (bs y2010.heading.name), .slice ad2015 y2010.heading.variants.length cap2016, .slice ad2017 y2010.heading.also.length cap2018, .slice ad2019 y2010.heading.places.length cap2020, .slice ad2037 ((y2010.heads ++ ([x1969.name] : List Bytes)).length) cap2038]), (10, Own.list ad2015 cap2016 9 1 encS y2010.heading.variants), (11, Own.list ad2017 cap2018 9 1 encS y2010.heading.also), (12, Own.list ad2019 cap2020 81 3 encPlace y2010.heading.places), (13, Own.list ad2037 cap2038 9 1 encS (y2010.heads ++ ([x1969.name] : List Bytes))), (7, Own.map' keS (fun v : Value => v) b1610 hs2004), (6, Own.rows (some ⟨b1972, 0, none⟩) cap722 64 4 css723 t720.1), (2, cel b8 85 [.map (some b7)]), (1, Own.map' keS (fun x => Value.string (bs x)) b7 t720.2)] ++ (famO entG (az2002.eraseIdx j2013) (t1999.eraseIdx j2013) ++ MK bs726))) J J (by kernel_rfl) tv J J (fun τ hτ a w K hS hA hF => by subst hτ <;> exact TG.pa hS hA (fb 1 U64 J J J J Z50 fin1)) (DC.det (fun τ => τ = ([(9, cel b2014 98 [.string (bs y2010.heading.name), .slice ad2015 y2010.heading.variants.length cap2016, .slice ad2017 y2010.heading.also.length cap2018, .slice ad2019 y2010.heading.places.length cap2020, .slice ad2037 ((y2010.heads ++ ([x1969.name] : List Bytes)).length) cap2038]), (10, Own.list ad2015 cap2016 9 1 encS y2010.heading.variants), (11, Own.list ad2017 cap2018 9 1 encS y2010.heading.also), (12, Own.list ad2019 cap2020 81 3 encPlace y2010.heading.places), (13, Own.list ad2037 cap2038 9 1 encS (y2010.heads ++ ([x1969.name] : List Bytes))), (7, Own.map' keS (fun v : Value => v) b1610 hs2004), (6, Own.rows (some ⟨b1972, 0, none⟩) cap722 64 4 css723 t720.1), (2, cel b8 85 [.map (some b7)]), (1, Own.map' keS (fun x => Value.string (bs x)) b7 t720.2)] ++ (famO entG (az2002.eraseIdx j2013) (t1999.eraseIdx j2013) ++ MK bs726))) J J (by kernel_rfl) tv J J (fun τ hτ a w K hS hA hF => by subst hτ <;> exact TG.pa hS hA (ld G50 J J (((sS 2 rfl hK1990).drop 1).take 1) rfl fin1)) ?_))))))))
       refine DC.turn (α := Option Addr × Nat) (none, 0) (fun q => .slice q.1 ((y2010.heading.variants ++ x1969.variants).length) q.2) (fun _ _ => True) (fun q => ([(9, cel b2014 98 [.string (bs y2010.heading.name), .slice ad2015 y2010.heading.variants.length cap2016, .slice ad2017 y2010.heading.also.length cap2018, .slice ad2019 y2010.heading.places.length cap2020, .slice ad2037 ((y2010.heads ++ ([x1969.name] : List Bytes)).length) cap2038]), (10, Own.list q.1 q.2 9 1 encS (y2010.heading.variants ++ x1969.variants)), (11, Own.list ad2017 cap2018 9 1 encS y2010.heading.also), (12, Own.list ad2019 cap2020 81 3 encPlace y2010.heading.places), (13, Own.list ad2037 cap2038 9 1 encS (y2010.heads ++ ([x1969.name] : List Bytes))), (7, Own.map' keS (fun v : Value => v) b1610 hs2004), (6, Own.rows (some ⟨b1972, 0, none⟩) cap722 64 4 css723 t720.1), (2, cel b8 85 [.map (some b7)]), (1, Own.map' keS (fun x => Value.string (bs x)) b7 t720.2)] ++ (famO entG (az2002.eraseIdx j2013) (t1999.eraseIdx j2013) ++ MK bs726))) rfl (fun _ _ _ _ h => h) (by kernel_rfl) J J (fun a w K hS hA hF => TG.pa hS hA (apS 10 (enc := encS) (l := y2010.heading.variants) (m := x1969.variants) T11.E50 J J J J J J hl1981 3 rfl (fun _ => rfl) (fun _ => rfl) rfl hk2040 fun ad2042 cap2043 => finT (f := fun q => .slice q.1 ((y2010.heading.variants ++ x1969.variants).length) q.2) (G := fun _ _ => True) (σ1 := fun q => ([(9, cel b2014 98 [.string (bs y2010.heading.name), .slice ad2015 y2010.heading.variants.length cap2016, .slice ad2017 y2010.heading.also.length cap2018, .slice ad2019 y2010.heading.places.length cap2020, .slice ad2037 ((y2010.heads ++ ([x1969.name] : List Bytes)).length) cap2038]), (10, Own.list q.1 q.2 9 1 encS (y2010.heading.variants ++ x1969.variants)), (11, Own.list ad2017 cap2018 9 1 encS y2010.heading.also), (12, Own.list ad2019 cap2020 81 3 encPlace y2010.heading.places), (13, Own.list ad2037 cap2038 9 1 encS (y2010.heads ++ ([x1969.name] : List Bytes))), (7, Own.map' keS (fun v : Value => v) b1610 hs2004), (6, Own.rows (some ⟨b1972, 0, none⟩) cap722 64 4 css723 t720.1), (2, cel b8 85 [.map (some b7)]), (1, Own.map' keS (fun x => Value.string (bs x)) b7 t720.2)] ++ (famO entG (az2002.eraseIdx j2013) (t1999.eraseIdx j2013) ++ MK bs726))) (_, _) tv)) ?_
       rintro ⟨ad2042, cap2043⟩
       refine DC.nil fun K2044 hF => ?_
       obtain ⟨_, _⟩ := hF
       refine nl J J (fb 0 U98 J J J J Z64 (fb 1 U64 J J J J Z50 (sto 9 (cs := [.slice ad2042 ((y2010.heading.variants ++ x1969.variants).length) cap2043]) Z50 J J J J J J J (on (sq ?_)))))
       obtain ⟨hk2045, hr2046⟩ := chk_some hr2041
       have := lenA y2010.heading.also x1969.also
       refine drG3 9 [8] [] mixed (fun _ _ _ _ _ h => h) (by kernel_rfl) (by kernel_rfl) (by kernel_rfl) rfl (by kernel_rfl) (.nil) (DC.detA J J J (fun τ a w K hS hA hF => TG.pa hS hA (m1 rfl fin1)) (DC.det (fun τ => τ = ([(9, cel b2014 98 [.string (bs y2010.heading.name), .slice ad2042 ((y2010.heading.variants ++ x1969.variants).length) cap2043, .slice ad2017 y2010.heading.also.length cap2018, .slice ad2019 y2010.heading.places.length cap2020, .slice ad2037 ((y2010.heads ++ ([x1969.name] : List Bytes)).length) cap2038]), (10, Own.list ad2042 cap2043 9 1 encS (y2010.heading.variants ++ x1969.variants)), (11, Own.list ad2017 cap2018 9 1 encS y2010.heading.also), (12, Own.list ad2019 cap2020 81 3 encPlace y2010.heading.places), (13, Own.list ad2037 cap2038 9 1 encS (y2010.heads ++ ([x1969.name] : List Bytes))), (7, Own.map' keS (fun v : Value => v) b1610 hs2004), (6, Own.rows (some ⟨b1972, 0, none⟩) cap722 64 4 css723 t720.1), (2, cel b8 85 [.map (some b7)]), (1, Own.map' keS (fun x => Value.string (bs x)) b7 t720.2)] ++ (famO entG (az2002.eraseIdx j2013) (t1999.eraseIdx j2013) ++ MK bs726))) J J (by kernel_rfl) tv J J (fun τ hτ a w K hS hA hF => by subst hτ <;> exact TG.pa hS hA (m1 rfl fin1)) (DC.det (fun τ => τ = ([(9, cel b2014 98 [.string (bs y2010.heading.name), .slice ad2042 ((y2010.heading.variants ++ x1969.variants).length) cap2043, .slice ad2017 y2010.heading.also.length cap2018, .slice ad2019 y2010.heading.places.length cap2020, .slice ad2037 ((y2010.heads ++ ([x1969.name] : List Bytes)).length) cap2038]), (10, Own.list ad2042 cap2043 9 1 encS (y2010.heading.variants ++ x1969.variants)), (11, Own.list ad2017 cap2018 9 1 encS y2010.heading.also), (12, Own.list ad2019 cap2020 81 3 encPlace y2010.heading.places), (13, Own.list ad2037 cap2038 9 1 encS (y2010.heads ++ ([x1969.name] : List Bytes))), (7, Own.map' keS (fun v : Value => v) b1610 hs2004), (6, Own.rows (some ⟨b1972, 0, none⟩) cap722 64 4 css723 t720.1), (2, cel b8 85 [.map (some b7)]), (1, Own.map' keS (fun x => Value.string (bs x)) b7 t720.2)] ++ (famO entG (az2002.eraseIdx j2013) (t1999.eraseIdx j2013) ++ MK bs726))) J J (by kernel_rfl) tv J J (fun τ hτ a w K hS hA hF => by subst hτ <;> exact TG.pa hS hA (nl J J fin1)) (DC.det (fun τ => τ = ([(9, cel b2014 98 [.string (bs y2010.heading.name), .slice ad2042 ((y2010.heading.variants ++ x1969.variants).length) cap2043, .slice ad2017 y2010.heading.also.length cap2018, .slice ad2019 y2010.heading.places.length cap2020, .slice ad2037 ((y2010.heads ++ ([x1969.name] : List Bytes)).length) cap2038]), (10, Own.list ad2042 cap2043 9 1 encS (y2010.heading.variants ++ x1969.variants)), (11, Own.list ad2017 cap2018 9 1 encS y2010.heading.also), (12, Own.list ad2019 cap2020 81 3 encPlace y2010.heading.places), (13, Own.list ad2037 cap2038 9 1 encS (y2010.heads ++ ([x1969.name] : List Bytes))), (7, Own.map' keS (fun v : Value => v) b1610 hs2004), (6, Own.rows (some ⟨b1972, 0, none⟩) cap722 64 4 css723 t720.1), (2, cel b8 85 [.map (some b7)]), (1, Own.map' keS (fun x => Value.string (bs x)) b7 t720.2)] ++ (famO entG (az2002.eraseIdx j2013) (t1999.eraseIdx j2013) ++ MK bs726))) J J (by kernel_rfl) tv J J (fun τ hτ a w K hS hA hF => by subst hτ <;> exact TG.pa hS hA (fb 0 U98 J J J J Z64 fin1)) (DC.det (fun τ => τ = ([(9, cel b2014 98 [.string (bs y2010.heading.name), .slice ad2042 ((y2010.heading.variants ++ x1969.variants).length) cap2043, .slice ad2017 y2010.heading.also.length cap2018, .slice ad2019 y2010.heading.places.length cap2020, .slice ad2037 ((y2010.heads ++ ([x1969.name] : List Bytes)).length) cap2038]), (10, Own.list ad2042 cap2043 9 1 encS (y2010.heading.variants ++ x1969.variants)), (11, Own.list ad2017 cap2018 9 1 encS y2010.heading.also), (12, Own.list ad2019 cap2020 81 3 encPlace y2010.heading.places), (13, Own.list ad2037 cap2038 9 1 encS (y2010.heads ++ ([x1969.name] : List Bytes))), (7, Own.map' keS (fun v : Value => v) b1610 hs2004), (6, Own.rows (some ⟨b1972, 0, none⟩) cap722 64 4 css723 t720.1), (2, cel b8 85 [.map (some b7)]), (1, Own.map' keS (fun x => Value.string (bs x)) b7 t720.2)] ++ (famO entG (az2002.eraseIdx j2013) (t1999.eraseIdx j2013) ++ MK bs726))) J J (by kernel_rfl) tv J J (fun τ hτ a w K hS hA hF => by subst hτ <;> exact TG.pa hS hA (fb 2 U64 J J J J Z50 fin1)) (DC.det (fun τ => τ = ([(9, cel b2014 98 [.string (bs y2010.heading.name), .slice ad2042 ((y2010.heading.variants ++ x1969.variants).length) cap2043, .slice ad2017 y2010.heading.also.length cap2018, .slice ad2019 y2010.heading.places.length cap2020, .slice ad2037 ((y2010.heads ++ ([x1969.name] : List Bytes)).length) cap2038]), (10, Own.list ad2042 cap2043 9 1 encS (y2010.heading.variants ++ x1969.variants)), (11, Own.list ad2017 cap2018 9 1 encS y2010.heading.also), (12, Own.list ad2019 cap2020 81 3 encPlace y2010.heading.places), (13, Own.list ad2037 cap2038 9 1 encS (y2010.heads ++ ([x1969.name] : List Bytes))), (7, Own.map' keS (fun v : Value => v) b1610 hs2004), (6, Own.rows (some ⟨b1972, 0, none⟩) cap722 64 4 css723 t720.1), (2, cel b8 85 [.map (some b7)]), (1, Own.map' keS (fun x => Value.string (bs x)) b7 t720.2)] ++ (famO entG (az2002.eraseIdx j2013) (t1999.eraseIdx j2013) ++ MK bs726))) J J (by kernel_rfl) tv J J (fun τ hτ a w K hS hA hF => by subst hτ <;> exact TG.pa hS hA (ld G50 J J (((sO 9 rfl).drop 2).take 1) rfl fin1)) (DC.det (fun τ => τ = ([(9, cel b2014 98 [.string (bs y2010.heading.name), .slice ad2042 ((y2010.heading.variants ++ x1969.variants).length) cap2043, .slice ad2017 y2010.heading.also.length cap2018, .slice ad2019 y2010.heading.places.length cap2020, .slice ad2037 ((y2010.heads ++ ([x1969.name] : List Bytes)).length) cap2038]), (10, Own.list ad2042 cap2043 9 1 encS (y2010.heading.variants ++ x1969.variants)), (11, Own.list ad2017 cap2018 9 1 encS y2010.heading.also), (12, Own.list ad2019 cap2020 81 3 encPlace y2010.heading.places), (13, Own.list ad2037 cap2038 9 1 encS (y2010.heads ++ ([x1969.name] : List Bytes))), (7, Own.map' keS (fun v : Value => v) b1610 hs2004), (6, Own.rows (some ⟨b1972, 0, none⟩) cap722 64 4 css723 t720.1), (2, cel b8 85 [.map (some b7)]), (1, Own.map' keS (fun x => Value.string (bs x)) b7 t720.2)] ++ (famO entG (az2002.eraseIdx j2013) (t1999.eraseIdx j2013) ++ MK bs726))) J J (by kernel_rfl) tv J J (fun τ hτ a w K hS hA hF => by subst hτ <;> exact TG.pa hS hA (fb 2 U64 J J J J Z50 fin1)) (DC.det (fun τ => τ = ([(9, cel b2014 98 [.string (bs y2010.heading.name), .slice ad2042 ((y2010.heading.variants ++ x1969.variants).length) cap2043, .slice ad2017 y2010.heading.also.length cap2018, .slice ad2019 y2010.heading.places.length cap2020, .slice ad2037 ((y2010.heads ++ ([x1969.name] : List Bytes)).length) cap2038]), (10, Own.list ad2042 cap2043 9 1 encS (y2010.heading.variants ++ x1969.variants)), (11, Own.list ad2017 cap2018 9 1 encS y2010.heading.also), (12, Own.list ad2019 cap2020 81 3 encPlace y2010.heading.places), (13, Own.list ad2037 cap2038 9 1 encS (y2010.heads ++ ([x1969.name] : List Bytes))), (7, Own.map' keS (fun v : Value => v) b1610 hs2004), (6, Own.rows (some ⟨b1972, 0, none⟩) cap722 64 4 css723 t720.1), (2, cel b8 85 [.map (some b7)]), (1, Own.map' keS (fun x => Value.string (bs x)) b7 t720.2)] ++ (famO entG (az2002.eraseIdx j2013) (t1999.eraseIdx j2013) ++ MK bs726))) J J (by kernel_rfl) tv J J (fun τ hτ a w K hS hA hF => by subst hτ <;> exact TG.pa hS hA (ld G50 J J (((sS 3 rfl hK1990).drop 2).take 1) rfl fin1)) ?_))))))))
       refine DC.turn (α := Option Addr × Nat) (none, 0) (fun q => .slice q.1 ((y2010.heading.also ++ x1969.also).length) q.2) (fun _ _ => True) (fun q => ([(9, cel b2014 98 [.string (bs y2010.heading.name), .slice ad2042 ((y2010.heading.variants ++ x1969.variants).length) cap2043, .slice ad2017 y2010.heading.also.length cap2018, .slice ad2019 y2010.heading.places.length cap2020, .slice ad2037 ((y2010.heads ++ ([x1969.name] : List Bytes)).length) cap2038]), (10, Own.list ad2042 cap2043 9 1 encS (y2010.heading.variants ++ x1969.variants)), (11, Own.list q.1 q.2 9 1 encS (y2010.heading.also ++ x1969.also)), (12, Own.list ad2019 cap2020 81 3 encPlace y2010.heading.places), (13, Own.list ad2037 cap2038 9 1 encS (y2010.heads ++ ([x1969.name] : List Bytes))), (7, Own.map' keS (fun v : Value => v) b1610 hs2004), (6, Own.rows (some ⟨b1972, 0, none⟩) cap722 64 4 css723 t720.1), (2, cel b8 85 [.map (some b7)]), (1, Own.map' keS (fun x => Value.string (bs x)) b7 t720.2)] ++ (famO entG (az2002.eraseIdx j2013) (t1999.eraseIdx j2013) ++ MK bs726))) rfl (fun _ _ _ _ h => h) (by kernel_rfl) J J (fun a w K hS hA hF => TG.pa hS hA (apS 11 (enc := encS) (l := y2010.heading.also) (m := x1969.also) T11.E50 J J J J J J hl1984 4 rfl (fun _ => rfl) (fun _ => rfl) rfl hk2045 fun ad2047 cap2048 => finT (f := fun q => .slice q.1 ((y2010.heading.also ++ x1969.also).length) q.2) (G := fun _ _ => True) (σ1 := fun q => ([(9, cel b2014 98 [.string (bs y2010.heading.name), .slice ad2042 ((y2010.heading.variants ++ x1969.variants).length) cap2043, .slice ad2017 y2010.heading.also.length cap2018, .slice ad2019 y2010.heading.places.length cap2020, .slice ad2037 ((y2010.heads ++ ([x1969.name] : List Bytes)).length) cap2038]), (10, Own.list ad2042 cap2043 9 1 encS (y2010.heading.variants ++ x1969.variants)), (11, Own.list q.1 q.2 9 1 encS (y2010.heading.also ++ x1969.also)), (12, Own.list ad2019 cap2020 81 3 encPlace y2010.heading.places), (13, Own.list ad2037 cap2038 9 1 encS (y2010.heads ++ ([x1969.name] : List Bytes))), (7, Own.map' keS (fun v : Value => v) b1610 hs2004), (6, Own.rows (some ⟨b1972, 0, none⟩) cap722 64 4 css723 t720.1), (2, cel b8 85 [.map (some b7)]), (1, Own.map' keS (fun x => Value.string (bs x)) b7 t720.2)] ++ (famO entG (az2002.eraseIdx j2013) (t1999.eraseIdx j2013) ++ MK bs726))) (_, _) tv)) ?_
       rintro ⟨ad2047, cap2048⟩
       refine DC.nil fun K2049 hF => ?_
       obtain ⟨_, _⟩ := hF
       refine nl J J (fb 0 U98 J J J J Z64 (fb 2 U64 J J J J Z50 (sto 9 (cs := [.slice ad2047 ((y2010.heading.also ++ x1969.also).length) cap2048]) Z50 J J J J J J J (on ?_))))
       obtain ⟨hk2050, hr2051⟩ := chk_some hr2046
       have := lenA y2010.heading.places x1969.places
       refine drG3 9 [8] [] mixed (fun _ _ _ _ _ h => h) (by kernel_rfl) (by kernel_rfl) (by kernel_rfl) rfl (by kernel_rfl) (.nil) (DC.detA J J J (fun τ a w K hS hA hF => TG.pa hS hA (m1 rfl fin1)) (DC.det (fun τ => τ = ([(9, cel b2014 98 [.string (bs y2010.heading.name), .slice ad2042 ((y2010.heading.variants ++ x1969.variants).length) cap2043, .slice ad2047 ((y2010.heading.also ++ x1969.also).length) cap2048, .slice ad2019 y2010.heading.places.length cap2020, .slice ad2037 ((y2010.heads ++ ([x1969.name] : List Bytes)).length) cap2038]), (10, Own.list ad2042 cap2043 9 1 encS (y2010.heading.variants ++ x1969.variants)), (11, Own.list ad2047 cap2048 9 1 encS (y2010.heading.also ++ x1969.also)), (12, Own.list ad2019 cap2020 81 3 encPlace y2010.heading.places), (13, Own.list ad2037 cap2038 9 1 encS (y2010.heads ++ ([x1969.name] : List Bytes))), (7, Own.map' keS (fun v : Value => v) b1610 hs2004), (6, Own.rows (some ⟨b1972, 0, none⟩) cap722 64 4 css723 t720.1), (2, cel b8 85 [.map (some b7)]), (1, Own.map' keS (fun x => Value.string (bs x)) b7 t720.2)] ++ (famO entG (az2002.eraseIdx j2013) (t1999.eraseIdx j2013) ++ MK bs726))) J J (by kernel_rfl) tv J J (fun τ hτ a w K hS hA hF => by subst hτ <;> exact TG.pa hS hA (m1 rfl fin1)) (DC.det (fun τ => τ = ([(9, cel b2014 98 [.string (bs y2010.heading.name), .slice ad2042 ((y2010.heading.variants ++ x1969.variants).length) cap2043, .slice ad2047 ((y2010.heading.also ++ x1969.also).length) cap2048, .slice ad2019 y2010.heading.places.length cap2020, .slice ad2037 ((y2010.heads ++ ([x1969.name] : List Bytes)).length) cap2038]), (10, Own.list ad2042 cap2043 9 1 encS (y2010.heading.variants ++ x1969.variants)), (11, Own.list ad2047 cap2048 9 1 encS (y2010.heading.also ++ x1969.also)), (12, Own.list ad2019 cap2020 81 3 encPlace y2010.heading.places), (13, Own.list ad2037 cap2038 9 1 encS (y2010.heads ++ ([x1969.name] : List Bytes))), (7, Own.map' keS (fun v : Value => v) b1610 hs2004), (6, Own.rows (some ⟨b1972, 0, none⟩) cap722 64 4 css723 t720.1), (2, cel b8 85 [.map (some b7)]), (1, Own.map' keS (fun x => Value.string (bs x)) b7 t720.2)] ++ (famO entG (az2002.eraseIdx j2013) (t1999.eraseIdx j2013) ++ MK bs726))) J J (by kernel_rfl) tv J J (fun τ hτ a w K hS hA hF => by subst hτ <;> exact TG.pa hS hA (nl J J fin1)) (DC.det (fun τ => τ = ([(9, cel b2014 98 [.string (bs y2010.heading.name), .slice ad2042 ((y2010.heading.variants ++ x1969.variants).length) cap2043, .slice ad2047 ((y2010.heading.also ++ x1969.also).length) cap2048, .slice ad2019 y2010.heading.places.length cap2020, .slice ad2037 ((y2010.heads ++ ([x1969.name] : List Bytes)).length) cap2038]), (10, Own.list ad2042 cap2043 9 1 encS (y2010.heading.variants ++ x1969.variants)), (11, Own.list ad2047 cap2048 9 1 encS (y2010.heading.also ++ x1969.also)), (12, Own.list ad2019 cap2020 81 3 encPlace y2010.heading.places), (13, Own.list ad2037 cap2038 9 1 encS (y2010.heads ++ ([x1969.name] : List Bytes))), (7, Own.map' keS (fun v : Value => v) b1610 hs2004), (6, Own.rows (some ⟨b1972, 0, none⟩) cap722 64 4 css723 t720.1), (2, cel b8 85 [.map (some b7)]), (1, Own.map' keS (fun x => Value.string (bs x)) b7 t720.2)] ++ (famO entG (az2002.eraseIdx j2013) (t1999.eraseIdx j2013) ++ MK bs726))) J J (by kernel_rfl) tv J J (fun τ hτ a w K hS hA hF => by subst hτ <;> exact TG.pa hS hA (fb 0 U98 J J J J Z64 fin1)) (DC.det (fun τ => τ = ([(9, cel b2014 98 [.string (bs y2010.heading.name), .slice ad2042 ((y2010.heading.variants ++ x1969.variants).length) cap2043, .slice ad2047 ((y2010.heading.also ++ x1969.also).length) cap2048, .slice ad2019 y2010.heading.places.length cap2020, .slice ad2037 ((y2010.heads ++ ([x1969.name] : List Bytes)).length) cap2038]), (10, Own.list ad2042 cap2043 9 1 encS (y2010.heading.variants ++ x1969.variants)), (11, Own.list ad2047 cap2048 9 1 encS (y2010.heading.also ++ x1969.also)), (12, Own.list ad2019 cap2020 81 3 encPlace y2010.heading.places), (13, Own.list ad2037 cap2038 9 1 encS (y2010.heads ++ ([x1969.name] : List Bytes))), (7, Own.map' keS (fun v : Value => v) b1610 hs2004), (6, Own.rows (some ⟨b1972, 0, none⟩) cap722 64 4 css723 t720.1), (2, cel b8 85 [.map (some b7)]), (1, Own.map' keS (fun x => Value.string (bs x)) b7 t720.2)] ++ (famO entG (az2002.eraseIdx j2013) (t1999.eraseIdx j2013) ++ MK bs726))) J J (by kernel_rfl) tv J J (fun τ hτ a w K hS hA hF => by subst hτ <;> exact TG.pa hS hA (fb 3 U64 J J J J Z62 fin1)) (DC.det (fun τ => τ = ([(9, cel b2014 98 [.string (bs y2010.heading.name), .slice ad2042 ((y2010.heading.variants ++ x1969.variants).length) cap2043, .slice ad2047 ((y2010.heading.also ++ x1969.also).length) cap2048, .slice ad2019 y2010.heading.places.length cap2020, .slice ad2037 ((y2010.heads ++ ([x1969.name] : List Bytes)).length) cap2038]), (10, Own.list ad2042 cap2043 9 1 encS (y2010.heading.variants ++ x1969.variants)), (11, Own.list ad2047 cap2048 9 1 encS (y2010.heading.also ++ x1969.also)), (12, Own.list ad2019 cap2020 81 3 encPlace y2010.heading.places), (13, Own.list ad2037 cap2038 9 1 encS (y2010.heads ++ ([x1969.name] : List Bytes))), (7, Own.map' keS (fun v : Value => v) b1610 hs2004), (6, Own.rows (some ⟨b1972, 0, none⟩) cap722 64 4 css723 t720.1), (2, cel b8 85 [.map (some b7)]), (1, Own.map' keS (fun x => Value.string (bs x)) b7 t720.2)] ++ (famO entG (az2002.eraseIdx j2013) (t1999.eraseIdx j2013) ++ MK bs726))) J J (by kernel_rfl) tv J J (fun τ hτ a w K hS hA hF => by subst hτ <;> exact TG.pa hS hA (ld G62 J J (((sO 9 rfl).drop 3).take 1) rfl fin1)) (DC.det (fun τ => τ = ([(9, cel b2014 98 [.string (bs y2010.heading.name), .slice ad2042 ((y2010.heading.variants ++ x1969.variants).length) cap2043, .slice ad2047 ((y2010.heading.also ++ x1969.also).length) cap2048, .slice ad2019 y2010.heading.places.length cap2020, .slice ad2037 ((y2010.heads ++ ([x1969.name] : List Bytes)).length) cap2038]), (10, Own.list ad2042 cap2043 9 1 encS (y2010.heading.variants ++ x1969.variants)), (11, Own.list ad2047 cap2048 9 1 encS (y2010.heading.also ++ x1969.also)), (12, Own.list ad2019 cap2020 81 3 encPlace y2010.heading.places), (13, Own.list ad2037 cap2038 9 1 encS (y2010.heads ++ ([x1969.name] : List Bytes))), (7, Own.map' keS (fun v : Value => v) b1610 hs2004), (6, Own.rows (some ⟨b1972, 0, none⟩) cap722 64 4 css723 t720.1), (2, cel b8 85 [.map (some b7)]), (1, Own.map' keS (fun x => Value.string (bs x)) b7 t720.2)] ++ (famO entG (az2002.eraseIdx j2013) (t1999.eraseIdx j2013) ++ MK bs726))) J J (by kernel_rfl) tv J J (fun τ hτ a w K hS hA hF => by subst hτ <;> exact TG.pa hS hA (fb 3 U64 J J J J Z62 fin1)) (DC.det (fun τ => τ = ([(9, cel b2014 98 [.string (bs y2010.heading.name), .slice ad2042 ((y2010.heading.variants ++ x1969.variants).length) cap2043, .slice ad2047 ((y2010.heading.also ++ x1969.also).length) cap2048, .slice ad2019 y2010.heading.places.length cap2020, .slice ad2037 ((y2010.heads ++ ([x1969.name] : List Bytes)).length) cap2038]), (10, Own.list ad2042 cap2043 9 1 encS (y2010.heading.variants ++ x1969.variants)), (11, Own.list ad2047 cap2048 9 1 encS (y2010.heading.also ++ x1969.also)), (12, Own.list ad2019 cap2020 81 3 encPlace y2010.heading.places), (13, Own.list ad2037 cap2038 9 1 encS (y2010.heads ++ ([x1969.name] : List Bytes))), (7, Own.map' keS (fun v : Value => v) b1610 hs2004), (6, Own.rows (some ⟨b1972, 0, none⟩) cap722 64 4 css723 t720.1), (2, cel b8 85 [.map (some b7)]), (1, Own.map' keS (fun x => Value.string (bs x)) b7 t720.2)] ++ (famO entG (az2002.eraseIdx j2013) (t1999.eraseIdx j2013) ++ MK bs726))) J J (by kernel_rfl) tv J J (fun τ hτ a w K hS hA hF => by subst hτ <;> exact TG.pa hS hA (ld G62 J J ((sS 4 rfl hK1990).drop 3) rfl fin1)) ?_))))))))
       refine DC.turn (α := Option Addr × Nat) (none, 0) (fun q => .slice q.1 ((y2010.heading.places ++ x1969.places).length) q.2) (fun _ _ => True) (fun q => ([(9, cel b2014 98 [.string (bs y2010.heading.name), .slice ad2042 ((y2010.heading.variants ++ x1969.variants).length) cap2043, .slice ad2047 ((y2010.heading.also ++ x1969.also).length) cap2048, .slice ad2019 y2010.heading.places.length cap2020, .slice ad2037 ((y2010.heads ++ ([x1969.name] : List Bytes)).length) cap2038]), (10, Own.list ad2042 cap2043 9 1 encS (y2010.heading.variants ++ x1969.variants)), (11, Own.list ad2047 cap2048 9 1 encS (y2010.heading.also ++ x1969.also)), (12, Own.list q.1 q.2 81 3 encPlace (y2010.heading.places ++ x1969.places)), (13, Own.list ad2037 cap2038 9 1 encS (y2010.heads ++ ([x1969.name] : List Bytes))), (7, Own.map' keS (fun v : Value => v) b1610 hs2004), (6, Own.rows (some ⟨b1972, 0, none⟩) cap722 64 4 css723 t720.1), (2, cel b8 85 [.map (some b7)]), (1, Own.map' keS (fun x => Value.string (bs x)) b7 t720.2)] ++ (famO entG (az2002.eraseIdx j2013) (t1999.eraseIdx j2013) ++ MK bs726))) rfl (fun _ _ _ _ h => h) (by kernel_rfl) J J (fun a w K hS hA hF => TG.pa hS hA (apS 12 (enc := encPlace) (l := y2010.heading.places) (m := x1969.places) T11.E62 J J J J J J hl1987 5 rfl (fun _ => rfl) (fun _ => rfl) rfl hk2050 fun ad2052 cap2053 => finT (f := fun q => .slice q.1 ((y2010.heading.places ++ x1969.places).length) q.2) (G := fun _ _ => True) (σ1 := fun q => ([(9, cel b2014 98 [.string (bs y2010.heading.name), .slice ad2042 ((y2010.heading.variants ++ x1969.variants).length) cap2043, .slice ad2047 ((y2010.heading.also ++ x1969.also).length) cap2048, .slice ad2019 y2010.heading.places.length cap2020, .slice ad2037 ((y2010.heads ++ ([x1969.name] : List Bytes)).length) cap2038]), (10, Own.list ad2042 cap2043 9 1 encS (y2010.heading.variants ++ x1969.variants)), (11, Own.list ad2047 cap2048 9 1 encS (y2010.heading.also ++ x1969.also)), (12, Own.list q.1 q.2 81 3 encPlace (y2010.heading.places ++ x1969.places)), (13, Own.list ad2037 cap2038 9 1 encS (y2010.heads ++ ([x1969.name] : List Bytes))), (7, Own.map' keS (fun v : Value => v) b1610 hs2004), (6, Own.rows (some ⟨b1972, 0, none⟩) cap722 64 4 css723 t720.1), (2, cel b8 85 [.map (some b7)]), (1, Own.map' keS (fun x => Value.string (bs x)) b7 t720.2)] ++ (famO entG (az2002.eraseIdx j2013) (t1999.eraseIdx j2013) ++ MK bs726))) (_, _) tv)) ?_
       rintro ⟨ad2052, cap2053⟩
       refine DC.nil fun K2054 hF => ?_
       obtain ⟨_, _⟩ := hF
       refine nl J J (fb 0 U98 J J J J Z64 (fb 3 U64 J J J J Z62 (sto 9 (cs := [.slice ad2052 ((y2010.heading.places ++ x1969.places).length) cap2053]) Z62 J J J J J J J (on (rg (adI J J J (by omega) (m1 rfl (on ?_))))))))
       refine backG [(9, cel b2014 98 [.string (bs y2010.heading.name), .slice ad2042 ((y2010.heading.variants ++ x1969.variants).length) cap2043, .slice ad2047 ((y2010.heading.also ++ x1969.also).length) cap2048, .slice ad2052 ((y2010.heading.places ++ x1969.places).length) cap2053, .slice ad2037 ((y2010.heads ++ ([x1969.name] : List Bytes)).length) cap2038]), (10, Own.list ad2042 cap2043 9 1 encS (y2010.heading.variants ++ x1969.variants)), (11, Own.list ad2047 cap2048 9 1 encS (y2010.heading.also ++ x1969.also)), (12, Own.list ad2052 cap2053 81 3 encPlace (y2010.heading.places ++ x1969.places)), (13, Own.list ad2037 cap2038 9 1 encS (y2010.heads ++ ([x1969.name] : List Bytes))), (7, Own.map' keS (fun v : Value => v) b1610 hs2004), (6, Own.rows (some ⟨b1972, 0, none⟩) cap722 64 4 css723 t720.1), (2, cel b8 85 [.map (some b7)]), (1, Own.map' keS (fun x => Value.string (bs x)) b7 t720.2)] (A' := [(7, Own.map' keS (fun v : Value => v) b1610 hs2004), (6, Own.rows (some ⟨b1972, 0, none⟩) cap722 64 4 css723 t720.1), (2, cel b8 85 [.map (some b7)]), (1, Own.map' keS (fun x => Value.string (bs x)) b7 t720.2)]) 9 10 11 12 13 (b := b2014) (p' := (ad2042, cap2043)) (q' := (ad2047, cap2048)) (r' := (ad2052, cap2053)) (s' := (ad2037, cap2038)) (y' := (⟨⟨y2010.heading.name, (y2010.heading.variants ++ x1969.variants), (y2010.heading.also ++ x1969.also), (y2010.heading.places ++ x1969.places)⟩, (y2010.heads ++ ([x1969.name] : List Bytes))⟩ : grown)) ha2023 hm2024 (hp2026 _) J J J J J J J ?_
       have hF2055 : Fam hvG hs2004 (az2002.set j2013 (b2014, (ad2042, cap2043), (ad2047, cap2048), (ad2052, cap2053), (ad2037, cap2038))) (put t1999 r1991 (⟨⟨y2010.heading.name, (y2010.heading.variants ++ x1969.variants), (y2010.heading.also ++ x1969.also), (y2010.heading.places ++ x1969.places)⟩, (y2010.heads ++ ([x1969.name] : List Bytes))⟩ : grown)) := updF hF2003 ha2023 hm2024 (hp2026 _)
       refine TG.eq (σ' := ([(7, Own.map' keS (fun v : Value => v) b1610 hs2004), (6, Own.rows (some ⟨b1972, 0, none⟩) cap722 64 4 css723 t720.1), (2, cel b8 85 [.map (some b7)]), (1, Own.map' keS (fun x => Value.string (bs x)) b7 t720.2)] ++ (famO entG (az2002.set j2013 (b2014, (ad2042, cap2043), (ad2047, cap2048), (ad2052, cap2053), (ad2037, cap2038))) (put t1999 r1991 (⟨⟨y2010.heading.name, (y2010.heading.variants ++ x1969.variants), (y2010.heading.also ++ x1969.also), (y2010.heading.places ++ x1969.places)⟩, (y2010.heads ++ ([x1969.name] : List Bytes))⟩ : grown)) ++ MK bs726))) rfl ?_
       cases hr2051
       intro a w hS hA
       exact ⟨_, hz1883, hs2004, (az2002.set j2013 (b2014, (ad2042, cap2043), (ad2047, cap2048), (ad2052, cap2053), (ad2037, cap2038))), hS.selH [5, 6] rfl, hA.cut ⟨rfl, rfl, rfl, rfl, rfl, tv⟩, hF2055⟩
     ·have hr2056 := if_n hc1888 hr1882
      refine xt rfl ?_
      cases hr2056
      obtain rfl := Fin.out hz1883
      intro a w hS hA
      exact ⟨hs1881, az1879, hS, hA.cut ⟨rfl, rfl, tv⟩, hF1880⟩
   ·rintro a w ⟨hs1877, az1875, hS, hA, hF1876⟩
    apply TG.ap ?_ hS hA
    refine sq (sq (rg (m1 rfl ?_)))
    have hn2058 := hF1876.hlen
    refine rgM (ke := keS) 14 U94 J J (mO 7 rfl) hn2058 fun r2057 => (on (bk ?_))
    refine rgl hr1874 (fun s2127 se2091 a w => ∃ (az2128 : List GA), St M W H [K724, H] ([(14, Own.blk r2057 (itO b1610 e1872.length se2091)), (7, Own.map' keS (fun v : Value => v) b1610 hs1877), (6, Own.rows ad721 cap722 64 4 css723 t720.1), (2, cel b8 85 [.map (some b7)]), (1, Own.map' keS (fun x => Value.string (bs x)) b7 t720.2)] ++ (famO entG az2128 s2127 ++ MK bs726)) w ∧ Has (bs726.map mk1) 241 a [(4, .pointer (some (⟨b8, 0, none⟩))), (13, .map (some b1610)), (135, .pointer (some ⟨r2057, 0, none⟩))] ∧ Fam hvG hs1877 az2128 s2127) ?_ ?_
    ·intro a w hS hA
     exact ⟨az1875, hS, hA.cut ⟨rfl, rfl, rfl, tv⟩, hF1876⟩
    ·rintro s2127 se2091 hg2130 a w ⟨az2128, hS, hA, hF2129⟩
     refine TG.ap ?_ hS hA
     refine sq (rg ?_)
     refine nxM (ke := keS) 14 J J J (mO 7 rfl) hn2058 (fun hall2137 => ?_) (fun i2131 k2132 v2133 hi2134 hlt2135 hni2136 => ?_)
     ·have hr2138 := hg2130.out hall2137
      unfold m18_6 at hr2138
      refine ex J J J (on (sq (cF J J (xt rfl (TG.del 14 (sq (rg (a1 rfl (on (sq (sq ?_)))))))))))
      refine rg (m1 rfl (lieG [(7, Own.map' keS (fun v : Value => v) b1610 hs1877), (6, Own.rows ad721 cap722 64 4 css723 t720.1), (2, cel b8 85 [.map (some b7)]), (1, Own.map' keS (fun x => Value.string (bs x)) b7 t720.2)] 7 hF2129 rfl fun K2139 hm2140 => (TG.eq (σ' := ([(6, Own.rows ad721 cap722 64 4 css723 t720.1), (2, cel b8 85 [.map (some b7)]), (1, Own.map' keS (fun x => Value.string (bs x)) b7 t720.2)] ++ (plO az2128 s2127 ([] : List Nat) ++ MK bs726))) rfl ?_)))
      have hn2142 := hF2129.hlen
      refine rgM (ke := keS) 20 U94 J J (mS 0 rfl hm2140.1) hn2142 fun r2141 => (on (TG.nilRow 26 64 4 ?_))
      have hR2350 : Rows (RHeading) 4 H [] ([] : List Heading) := tv
      refine TG.as 26 (z := Own.rows none 0 64 4 [] ([] : List Heading)) J J (bk ?_)
      refine rgl hr2138 (fun s2778 se2562 a w => ∃ (ad2779 : Option Addr) (cap2780 : Nat) (css2781 : List (List Value)) (K2782 : Hp), St M W H [K2782, K2139, K724, H] ([(26, Own.rows ad2779 cap2780 64 4 css2781 s2778), (20, Own.blk r2141 (itO b1610 s2127.length se2562)), (6, Own.rows ad721 cap722 64 4 css723 t720.1), (2, cel b8 85 [.map (some b7)]), (1, Own.map' keS (fun x => Value.string (bs x)) b7 t720.2)] ++ (plO az2128 s2127 se2562 ++ MK bs726)) w ∧ Has (bs726.map mk1) 241 a [(4, .pointer (some (⟨b8, 0, none⟩))), (13, .map (some b1610)), (20, .slice ad2779 s2778.length cap2780), (150, .pointer (some ⟨r2141, 0, none⟩))] ∧ Rows (RHeading) 4 K2782 css2781 s2778) ?_ ?_
      ·intro a w hS hA
       exact ⟨none, 0, [], H, hS.selH [2, 0, 1, 2] rfl, hA.cut ⟨rfl, rfl, rfl, rfl, tv⟩, hR2350⟩
      ·rintro s2778 se2562 hg2784 a w ⟨ad2779, cap2780, css2781, K2782, hS, hA, hR2783⟩
       refine TG.ap ?_ hS hA
       refine sq (rg ?_)
       refine nxM (ke := keS) 20 J J J (mS 1 rfl hm2140.1) hn2142 (fun hall2791 => ?_) (fun i2785 k2786 v2787 hi2788 hlt2789 hni2790 => ?_)
       ·have hr2792 := hg2784.out hall2791
        unfold m18_8 at hr2792
        refine ex J J J (on (sq (cF J J (xt rfl (TG.del 20 (TG.dropM (A := [(26, Own.rows ad2779 cap2780 64 4 css2781 s2778), (6, Own.rows ad721 cap722 64 4 css723 t720.1), (2, cel b8 85 [.map (some b7)]), (1, Own.map' keS (fun x => Value.string (bs x)) b7 t720.2)]) (TG.eq (σ' := ([(26, Own.rows ad2779 cap2780 64 4 css2781 s2778), (6, Own.rows ad721 cap722 64 4 css723 t720.1), (2, cel b8 85 [.map (some b7)]), (1, Own.map' keS (fun x => Value.string (bs x)) b7 t720.2)] ++ MK bs726)) rfl (sq (sq (rg (m1 rfl ?_)))))))))))
        refine TG.len 26 rfl fun _ => (lnL U26 J J (gtI J J J (on ?_)))
        refine ci rfl (fun hc2796 => ?_) (fun hc2796 => ?_)
        ·have hr2797 := if_p hc2796 hr2792
         refine sq (rg (a1 rfl (a1 rfl (on (rt_ ?_)))))
         cases hr2797
         refine rtM (rtMs (A := [(26, Own.rows ad2779 cap2780 64 4 css2781 s2778), (6, Own.rows ad721 cap722 64 4 css723 t720.1), (2, cel b8 85 [.map (some b7)]), (1, Own.map' keS (fun x => Value.string (bs x)) b7 t720.2)]) (bs := bs726) (rt0 ?_))
         intro a w hS hA
         refine ret2 hA J J J ?_
         exact ⟨⟨_, _, rfl, (Sl.nil _ _ _ _ _ (by decide))⟩, hS.ext⟩
        ·have hr2798 := if_n hc2796 hr2792
         refine sk (sq (rg (m1 rfl ?_)))
         obtain ⟨hk2799, hr2800⟩ := chk_some hr2798
         obtain ⟨l2801, hx2802, hr2803⟩ := bd_some hr2800
         have : l2801.length = s2778.length := sortO_len hx2802
         refine srtR 26 0 rfl (RHeading.mono) Tryz.srt58 C58 J J J J hR2783 J J (fun H le => ⟨59, [], [], rfl, C59, fun w_ K_ args_ v_ hK hw hs => by obtain ⟨u0_, u1_, x0_, x1_, r_, rfl, h0_, h1_, hx, rfl⟩ := hs; obtain ⟨_, rfl, h0_⟩ := h0_; obtain ⟨_, rfl, h1_⟩ := h1_; exact w59 (H := K_) hw  x0_ h0_ x1_ h1_  hx⟩) hk2799 hx2802 fun css2804 hR2805 => ?_
         have hln2806 := sortO_len hx2802
         refine on (sq (rg (m1 rfl (a1 rfl (a1 rfl (on (rt_ (TG.cut (L' := [(2, .slice ad2779 l2801.length cap2780), (3, .int .i64 0), (4, .pointer (some (⟨b8, 0, none⟩))), (13, .map (some b1610)), (20, .slice ad2779 l2801.length cap2780), (150, .pointer (some ⟨r2141, 0, none⟩)), (151, .tuple [.bool false].toArray), (152, .bool false), (235, .slice ad2779 l2801.length cap2780), (236, .int .i64 (s2778.length : Int)), (237, .bool (decide (60 < (s2778.length : Int)))), (238, .slice ad2779 l2801.length cap2780), (239, .tuple [].toArray), (240, .slice ad2779 l2801.length cap2780)]) ⟨(by rw [hln2806]; rfl), rfl, rfl, rfl, (by rw [hln2806]; rfl), rfl, rfl, rfl, (by rw [hln2806]; rfl), rfl, rfl, (by rw [hln2806]; rfl), rfl, (by rw [hln2806]; rfl), tv⟩ ?_))))))))
         cases hr2803
         refine rtM (rtMs (A := [(26, Own.rows ad2779 cap2780 64 4 css2804 l2801), (6, Own.rows ad721 cap722 64 4 css723 t720.1), (2, cel b8 85 [.map (some b7)]), (1, Own.map' keS (fun x => Value.string (bs x)) b7 t720.2)]) (bs := bs726) (rt0 ?_))
         intro a w hS hA
         refine ret2 hA J J J ?_
         exact ⟨⟨_, _, rfl, (hS.rowsOut 26 rfl 0 rfl (RHeading.mono) hR2805)⟩, hS.ext⟩
       ·obtain ⟨y2807, hst2808, hg2809, hg2810⟩ := hg2784.stp hlt2789 hni2790
        unfold m18_7 at hst2808
        obtain ⟨q2811, hx2812, hr2813⟩ := bd_some hst2808
        obtain ⟨b2814, ad2815, cap2816, ad2817, cap2818, ad2819, cap2820, ad2821, cap2822, ha2823, hh2824, hc2825, hl2826, hl2827, hl2828⟩ := hm2140.at hF2129 hx2812
        obtain ⟨rfl, rfl⟩ := Prod.mk.inj (sj (hi2788.symm.trans hh2824))
        refine TG.eq (σ' := ([(26, Own.rows ad2779 cap2780 64 4 css2781 s2778), (20, Own.blk r2141 (itO b1610 s2127.length (se2562 ++ [i2785]))), (6, Own.rows ad721 cap722 64 4 css723 t720.1), (2, cel b8 85 [.map (some b7)]), (1, Own.map' keS (fun x => Value.string (bs x)) b7 t720.2)] ++ (plO az2128 s2127 se2562 ++ MK bs726))) rfl (plF [(26, Own.rows ad2779 cap2780 64 4 css2781 s2778), (20, Own.blk r2141 (itO b1610 s2127.length (se2562 ++ [i2785]))), (6, Own.rows ad721 cap722 64 4 css723 t720.1), (2, cel b8 85 [.map (some b7)]), (1, Own.map' keS (fun x => Value.string (bs x)) b7 t720.2)] 21 ha2823 hx2812 hni2790 (TG.lisP (TG.eq (σ' := ([(21, Own.lisP ad2819 cap2820 81 3 encPlace q2811.2.heading.places), (26, Own.rows ad2779 cap2780 64 4 css2781 s2778), (20, Own.blk r2141 (itO b1610 s2127.length (se2562 ++ [i2785]))), (6, Own.rows ad721 cap722 64 4 css723 t720.1), (2, cel b8 85 [.map (some b7)]), (1, Own.map' keS (fun x => Value.string (bs x)) b7 t720.2)] ++ (plO az2128 s2127 (se2562 ++ [i2785]) ++ MK bs726))) rfl (ex J J J (on (sq (cT J J (sk (bk (sq (rg ?_)))))))))))
        have := hl2826.len
        have := hl2827.len
        have := hl2828.len
        refine enM (ke := keS) 20 J J J (mS 1 rfl hm2140.1) hn2142 hh2824 (ex J J J (a1 rfl (on (sq ?_))))
        obtain ⟨r3013, hx3014, hr3015⟩ := bd_some hr2813
        obtain ⟨r3023, hx3024, hr3025⟩ := bd_some hr3015
        refine drG4 (alS 28 (fun b3034 => ([(22, cel b3034 64 [.string (bs []), .slice none 0 0, .slice none 0 0, .slice none 0 0]), (21, Own.lisP ad2819 cap2820 81 3 encPlace q2811.2.heading.places), (26, Own.rows ad2779 cap2780 64 4 css2781 s2778), (20, Own.blk r2141 (itO b1610 s2127.length (se2562 ++ [i2785]))), (6, Own.rows ad721 cap722 64 4 css723 t720.1), (2, cel b8 85 [.map (some b7)]), (1, Own.map' keS (fun x => Value.string (bs x)) b7 t720.2)] ++ (plO az2128 s2127 (se2562 ++ [i2785]) ++ MK bs726))) (fun _ _ => [])) 29 [28] [] mixed (fun _ _ _ _ _ h => h) (by kernel_rfl) (by kernel_rfl) (by kernel_rfl) rfl (by kernel_rfl) (by kernel_rfl) (.nil) (DC.detA J J J (fun τ a w K hS hA hF => TG.pa hS hA (m1 rfl fin1)) (DC.detA J J J (fun τ a w K hS hA hF => TG.pa hS hA (nl J J fin1)) (DC.detA J J J (fun τ a w K hS hA hF => TG.pa hS hA (fb 0 U98 J J J J Z64 fin1)) (DC.detA J J J (fun τ a w K hS hA hF => TG.pa hS hA (fb 0 U64 J J J J Z9 fin1)) (DC.detA J J J (fun τ a w K hS hA hF => TG.pa hS hA (ld G9 J J ((sS 2 rfl hc2825).take 1) rfl fin1)) (DC.detA J J J (fun τ a w K hS hA hF => TG.pa hS hA (m1 rfl fin1)) (DC.detA J J J (fun τ a w K hS hA hF => TG.pa hS hA (nl J J fin1)) (DC.detA J J J (fun τ a w K hS hA hF => TG.pa hS hA (fb 0 U98 J J J J Z64 fin1)) (DC.detA J J J (fun τ a w K hS hA hF => TG.pa hS hA (fb 0 U64 J J J J Z9 fin1)) (DC.detA J J J (fun τ a w K hS hA hF => TG.pa hS hA (ld G9 J J ((sS 2 rfl hc2825).take 1) rfl fin1)) (DC.detA J J J (fun τ a w K hS hA hF => TG.pa hS hA (m1 rfl fin1)) ?_)))))))))))
        refine DC.detA J J J (fun τ a w K hS hA hF => TG.pa hS hA (nl J J fin1)) (DC.detA J J J (fun τ a w K hS hA hF => TG.pa hS hA (fb 0 U98 J J J J Z64 fin1)) (DC.detA J J J (fun τ a w K hS hA hF => TG.pa hS hA (fb 1 U64 J J J J Z50 fin1)) (DC.detA J J J (fun τ a w K hS hA hF => TG.pa hS hA (ld G50 J J (((sS 2 rfl hc2825).drop 1).take 1) rfl fin1)) (DC.detA J J J (fun τ a w K hS hA hF => TG.pa hS hA (m1 rfl fin1)) (DC.detA J J J (fun τ a w K hS hA hF => TG.pa hS hA (nl J J fin1)) (DC.detA J J J (fun τ a w K hS hA hF => TG.pa hS hA (fb 4 U98 J J J J Z50 fin1)) (DC.detA J J J (fun τ a w K hS hA hF => TG.pa hS hA (ld G50 J J ((sS 2 rfl hc2825).drop 4) rfl fin1)) ?_)))))))
        refine DC.undA (α := Option Addr × Nat) (none, 0) (fun q => .slice q.1 2 q.2) (fun (q : Option Addr × Nat) K => Sl (RSl (Flat encS) 1) 1 K q.1 q.2 ([q2811.2.heading.variants, q2811.2.heads] : List (List Bytes))) rfl (fun _ _ _ h x => x.mono (RSl.mono (Flat.mono _)) h) (by kernel_rfl) J J (fun τ a w K hS hA hF => TG.pa hS hA (bS (cs := [.slice ad2815 q2811.2.heading.variants.length cap2816, .slice ad2821 q2811.2.heads.length cap2822]) T11.E134 J J J J fun q3004 K3005 hq3006 hK3007 => by
          refine TG.pack (fun K => Sl (RSl (Flat encS) 1) 1 K (some q3004) 2 ([q2811.2.heading.variants, q2811.2.heads] : List (List Bytes))) (fun H le => Sl.litR (css := [[.slice ad2815 q2811.2.heading.variants.length cap2816], [.slice ad2821 q2811.2.heads.length cap2822]]) (l := ([q2811.2.heading.variants, q2811.2.heads] : List (List Bytes))) ⟨⟨rfl, rfl, ⟨_, _, rfl, (hl2826.mono (Flat.mono _) (le.at 3 rfl))⟩⟩, ⟨rfl, rfl, ⟨_, _, rfl, (hl2828.mono (Flat.mono _) (le.at 3 rfl))⟩⟩, tv⟩ hq3006 (hK3007.mono (le.at 0 rfl)) rfl) fun K3009 hl3008 => ?_
          have := hl3008.len
          refine sk1 ?_
          exact finU (f := fun q => .slice q.1 2 q.2) (G := (fun (q : Option Addr × Nat) K => Sl (RSl (Flat encS) 1) 1 K q.1 q.2 ([q2811.2.heading.variants, q2811.2.heads] : List (List Bytes)))) (_, _) (fun _ _ _ h x => x.mono (RSl.mono (Flat.mono _)) h) hl3008)) ?_
        rintro ⟨ad3011, cap3012⟩
        refine DC.undA (α := Option Addr × Nat) (none, 0) (fun q => .slice q.1 r3013.length q.2) (fun (q : Option Addr × Nat) K => Sl (Flat encS) 1 K q.1 q.2 r3013) rfl (fun _ _ _ h x => x.mono (Flat.mono _) h) (by kernel_rfl) J J (fun τ a w K hS hA hF => TG.pa hS hA (clK C56 J J J J (fun w H hH le => w56 hH q2811.2.heading.name ((hF.1 rfl).mono (RSl.mono (Flat.mono _)) (le.at 0 rfl)) hx3014) (by
          rintro v_ K3016 ⟨ad3017, cap3018, rfl, hl3019⟩
          exact finU (f := fun q => .slice q.1 r3013.length q.2) (G := (fun (q : Option Addr × Nat) K => Sl (Flat encS) 1 K q.1 q.2 r3013)) (_, _) (fun _ _ _ h x => x.mono (Flat.mono _) h) hl3019))) ?_
        rintro ⟨ad3021, cap3022⟩
        refine DC.detA J J J (fun τ a w K hS hA hF => TG.pa hS hA (m1 rfl fin1)) (DC.detA J J J (fun τ a w K hS hA hF => TG.pa hS hA (nl J J fin1)) (DC.detA J J J (fun τ a w K hS hA hF => TG.pa hS hA (fb 0 U98 J J J J Z64 fin1)) (DC.detA J J J (fun τ a w K hS hA hF => TG.pa hS hA (fb 3 U64 J J J J Z62 fin1)) (DC.detA J J J (fun τ a w K hS hA hF => TG.pa hS hA (ld G62 J J (((sS 2 rfl hc2825).drop 3).take 1) rfl fin1)) ?_))))
        refine DC.undQ (α := Option Addr × Nat) (none, 0) (fun q => .slice q.1 r3023.length q.2) (fun (q : Option Addr × Nat) K => Sl (Flat encPlace) 3 K q.1 q.2 r3023) (fun τ => getO τ 21 = some (Own.lisP ad2819 cap2820 81 3 encPlace q2811.2.heading.places)) J J tv ⟨_, rfl, fun u v hu => by simp at hu; subst hu; rfl⟩ (fun _ _ _ h x => x.mono (Flat.mono _) h) (by kernel_rfl) J J (fun τ hτ a w K hS hA hF => TG.pa hS hA (clQ 21 C57 J J J J hτ (fun w V σr hS le => w57 hx3024 hS) (by
          rintro v_ K3028 ⟨ad3026, cap3027, rfl, hl3029⟩
          exact finU (f := fun q => .slice q.1 r3023.length q.2) (G := (fun (q : Option Addr × Nat) K => Sl (Flat encPlace) 3 K q.1 q.2 r3023)) (_, _) (fun _ _ _ h x => x.mono (Flat.mono _) h) hl3029))) ?_
        rintro ⟨ad3031, cap3032⟩
        refine DC.undA () (fun _ => .agg [.string (bs q2811.2.heading.name), .slice ad3021 r3013.length cap3022, .slice none 0 0, .slice ad3031 r3023.length cap3032].toArray) (fun _ K => Sl (Flat encS) 1 K ad3021 cap3022 r3013 ∧ Sl (Flat encPlace) 3 K ad3031 cap3032 r3023) rfl (fun _ _ _ h x => ⟨x.1.mono (Flat.mono _) h, x.2.mono (Flat.mono _) h⟩) (by kernel_rfl) J J (fun τ a w K hS hA hF => TG.pa hS hA (bu (cs := [.string (bs q2811.2.heading.name), .slice ad3021 r3013.length cap3022, .slice none 0 0, .slice ad3031 r3023.length cap3032]) T11.B64 J J J (finF (f := fun _ => .agg [.string (bs q2811.2.heading.name), .slice ad3021 r3013.length cap3022, .slice none 0 0, .slice ad3031 r3023.length cap3032].toArray) (G := fun _ K => Sl (Flat encS) 1 K ad3021 cap3022 r3013 ∧ Sl (Flat encPlace) 3 K ad3031 cap3032 r3023) () ⟨(hF.2.1 rfl), (hF.1 rfl)⟩))) fun _ => (DC.turn (α := Nat) 0 (fun b3034 => .pointer (some (⟨b3034, 0, none⟩))) (fun _ _ => True) (fun b3034 => ([(22, cel b3034 64 [.string (bs []), .slice none 0 0, .slice none 0 0, .slice none 0 0]), (21, Own.lisP ad2819 cap2820 81 3 encPlace q2811.2.heading.places), (26, Own.rows ad2779 cap2780 64 4 css2781 s2778), (20, Own.blk r2141 (itO b1610 s2127.length (se2562 ++ [i2785]))), (6, Own.rows ad721 cap722 64 4 css723 t720.1), (2, cel b8 85 [.map (some b7)]), (1, Own.map' keS (fun x => Value.string (bs x)) b7 t720.2)] ++ (plO az2128 s2127 (se2562 ++ [i2785]) ++ MK bs726))) rfl (fun _ _ _ _ h => h) (by kernel_rfl) J J (fun a w K hS hA hF => TG.pa hS hA (al 22 (cs := [.string (bs []), .slice none 0 0, .slice none 0 0, .slice none 0 0]) Tryz.zeroValue64 J J fun b3034 => finT (f := fun b3034 => .pointer (some (⟨b3034, 0, none⟩))) (G := fun _ _ => True) (σ1 := fun b3034 => ([(22, cel b3034 64 [.string (bs []), .slice none 0 0, .slice none 0 0, .slice none 0 0]), (21, Own.lisP ad2819 cap2820 81 3 encPlace q2811.2.heading.places), (26, Own.rows ad2779 cap2780 64 4 css2781 s2778), (20, Own.blk r2141 (itO b1610 s2127.length (se2562 ++ [i2785]))), (6, Own.rows ad721 cap722 64 4 css723 t720.1), (2, cel b8 85 [.map (some b7)]), (1, Own.map' keS (fun x => Value.string (bs x)) b7 t720.2)] ++ (plO az2128 s2127 (se2562 ++ [i2785]) ++ MK bs726))) b3034 tv)) fun b3034 => (DC.nil fun K3035 hF => ?_))
        obtain ⟨_, hu3033, hu3030, hu3020, hu3010, _⟩ := hF
        have := hu3010.len
        have := hu3020.len
        have := hu3030.len
        refine sto 22 (cs := [.string (bs q2811.2.heading.name), .slice ad3021 r3013.length cap3022, .slice none 0 0, .slice ad3031 r3023.length cap3032]) Z64 J J J J J J J (on (sq (rg (a1 rfl (on (sq (sq (rg (m1 rfl (nl J J (fb 0 U98 J J J J Z64 ?_)))))))))))
        refine fb 2 U64 J J J J Z50 (ld G50 J J (((sS 2 rfl hc2825).drop 2).take 1) rfl (lnL U50 J J (m1 rfl (on (TG.nilRow 24 9 1 (TG.as 24 (z := Own.list none 0 9 1 encS ([] : List Bytes)) J J ?_))))))
        obtain ⟨e3144, hl3145, hr3146⟩ := bd_some hr3025
        refine jn (fun a w => ∃ (ad3147 : Option Addr) (cap3148 : Nat), St M W H [K3035, K2782, K2139, K724, H] ([(24, Own.list ad3147 cap3148 9 1 encS e3144), (22, cel b3034 64 [.string (bs q2811.2.heading.name), .slice ad3021 r3013.length cap3022, .slice none 0 0, .slice ad3031 r3023.length cap3032]), (21, Own.lisP ad2819 cap2820 81 3 encPlace q2811.2.heading.places), (26, Own.rows ad2779 cap2780 64 4 css2781 s2778), (20, Own.blk r2141 (itO b1610 s2127.length (se2562 ++ [i2785]))), (6, Own.rows ad721 cap722 64 4 css723 t720.1), (2, cel b8 85 [.map (some b7)]), (1, Own.map' keS (fun x => Value.string (bs x)) b7 t720.2)] ++ (plO az2128 s2127 (se2562 ++ [i2785]) ++ MK bs726)) w ∧ Has (bs726.map mk1) 241 a [(4, .pointer (some (⟨b8, 0, none⟩))), (13, .map (some b1610)), (20, .slice ad2779 s2778.length cap2780), (22, .pointer (some (⟨b2814, 0, none⟩))), (23, .pointer (some (⟨b3034, 0, none⟩))), (24, .slice ad3147 e3144.length cap3148), (150, .pointer (some ⟨r2141, 0, none⟩))]) ?_ ?_
        ·refine bk ?_
         refine lp hl3145 (fun s3149 a w => ∃ (ad3150 : Option Addr) (cap3151 : Nat), St M W H [K3035, K2782, K2139, K724, H] ([(24, Own.list ad3150 cap3151 9 1 encS s3149.2), (22, cel b3034 64 [.string (bs q2811.2.heading.name), .slice ad3021 r3013.length cap3022, .slice none 0 0, .slice ad3031 r3023.length cap3032]), (21, Own.lisP ad2819 cap2820 81 3 encPlace q2811.2.heading.places), (26, Own.rows ad2779 cap2780 64 4 css2781 s2778), (20, Own.blk r2141 (itO b1610 s2127.length (se2562 ++ [i2785]))), (6, Own.rows ad721 cap722 64 4 css723 t720.1), (2, cel b8 85 [.map (some b7)]), (1, Own.map' keS (fun x => Value.string (bs x)) b7 t720.2)] ++ (plO az2128 s2127 (se2562 ++ [i2785]) ++ MK bs726)) w ∧ Has (bs726.map mk1) 241 a [(4, .pointer (some (⟨b8, 0, none⟩))), (13, .map (some b1610)), (20, .slice ad2779 s2778.length cap2780), (22, .pointer (some (⟨b2814, 0, none⟩))), (23, .pointer (some (⟨b3034, 0, none⟩))), (24, .slice ad3150 s3149.2.length cap3151), (150, .pointer (some ⟨r2141, 0, none⟩)), (187, .slice ad2817 q2811.2.heading.also.length cap2818), (188, .int .i64 (q2811.2.heading.also.length : Int)), (189, .int .i64 (s3149.1 : Int))]) ?_ ?_
         ·intro a w hS hA
          exact ⟨none, 0, hS, hA.cut ⟨rfl, rfl, rfl, rfl, rfl, rfl, rfl, rfl, rfl, rfl, tv⟩⟩
         ·rintro j s3149 y3154 hr3152 hz3153 a w ⟨ad3150, cap3151, hS, hA⟩
          refine TG.ap ?_ hS hA
          unfold m18_9 at hr3152
          refine sq (rg (ltI J J J (on (sq ?_))))
          refine ci rfl (fun hc3158 => ?_) (fun hc3158 => ?_)
          ·have hr3159 := if_p hc3158 hr3152
           refine sk (sq (bk (sq (rg ?_))))
           obtain ⟨x3190, hx3191, hr3192⟩ := bd_some hr3159
           obtain ⟨p3193, rfl⟩ := hl2827.adr hx3191
           obtain ⟨cs3194, hcs3195, hq3196, hr3197⟩ := hl2827.at hx3191
           obtain rfl := hr3197
           refine iaP U50 Z9 J J J J (lt_of hx3191) (ld G9 J J (sS 2 rfl hq3196) rfl (a1 rfl (on (rg (m1 rfl (m1 rfl (ld G85 J J (sO 2 rfl) rfl (m1 rfl ?_))))))))
           obtain ⟨r3198, hx3199, hr3200⟩ := bd_some hr3192
           refine clL C53 J J J J (fun w hS => w53 (Hp.le.refl (hp w)) (l_0 := t720.2) (.inl ⟨_, rfl, hS.get (t := 1) rfl⟩) x3190 hx3199) ?_
           obtain ⟨y3201, hx3202, hr3203⟩ := bd_some hr3200
           obtain ⟨b3204, ad3205, cap3206, ad3207, cap3208, ad3209, cap3210, ad3211, cap3212, he3213, hc3214⟩ := hm2140.look hF2129 hx3202
           refine lkR (ke := keS) r3198 U94 U9 Tryz.zeroValue96 J J J (mS 2 rfl hm2140.1) he3213 (nl J J (fb 0 U98 J J J J Z64 (fb 0 U64 J J J J Z9 (ld G9 J J ((sS 2 rfl hc3214).take 1) rfl ?_))))
           obtain ⟨hk3215, hr3216⟩ := chk_some hr3203
           have := lenA s3149.2 [y3201.heading.name]
           have := len1 y3201.heading.name
           refine ap1 24 encS (l := s3149.2) y3201.heading.name T11.E50 J J J J J J J J J J J J hk3215 fun ad3217 cap3218 u3219 => (a1 rfl (on (rg (adI J J J (by omega) (m1 rfl (on ?_))))))
           cases hr3216
           intro a w hS hA
           exact ⟨_, hz3153, ad3217, cap3218, hS, hA.cut ⟨rfl, rfl, rfl, rfl, rfl, rfl, rfl, rfl, rfl, rfl, tv⟩⟩
          ·have hr3220 := if_n hc3158 hr3152
           refine xt rfl ?_
           cases hr3220
           obtain rfl := Fin.out hz3153
           intro a w hS hA
           exact ⟨ad3150, cap3151, hS, hA.cut ⟨rfl, rfl, rfl, rfl, rfl, rfl, rfl, tv⟩⟩
        ·rintro a w ⟨ad3147, cap3148, hS, hA⟩
         apply TG.ap ?_ hS hA
         refine sq (rg (m1 rfl (nl J J (fb 0 U98 J J J J Z64 (fb 0 U64 J J J J Z9 (ld G9 J J ((sS 2 rfl hc2825).take 1) rfl (m1 rfl (TG.still 24 rfl (fun _ => rfl) fun K3221 hl3222 => ?_))))))))
         have := hl3222.len
         refine bS (cs := [.slice ad3147 e3144.length cap3148]) T11.E134 J J J J fun q3223 K3224 hq3225 hK3226 => (TG.pack (fun K => Sl (RSl (Flat encS) 1) 1 K (some q3223) 1 ([e3144] : List (List Bytes))) (fun H le => Sl.litR (css := [[.slice ad3147 e3144.length cap3148]]) (l := ([e3144] : List (List Bytes))) ⟨⟨rfl, rfl, ⟨_, _, rfl, (hl3222.mono (Flat.mono _) (le.at 1 rfl))⟩⟩, tv⟩ hq3225 (hK3226.mono (le.at 0 rfl)) rfl) fun K3228 hl3227 => ?_)
         have := hl3227.len
         obtain ⟨r3229, hx3230, hr3231⟩ := bd_some hr3146
         refine clK C56 J J J J (fun w H hH le => w56 hH q2811.2.heading.name (hl3227.mono (RSl.mono (Flat.mono _)) (le.at 0 rfl)) hx3230) ?_
         rintro v_ K3232 ⟨ad3233, cap3234, rfl, hl3235⟩
         have := hl3235.len
         refine fb 2 U64 J J J J Z50 (sto 22 (cs := [.slice ad3233 r3229.length cap3234]) Z50 J J J J J J J (on (sq (sq ?_))))
         obtain ⟨t3242, hx3243, hr3244⟩ := bd_some hr3231
         refine jn (fun a w => St M W H [K3232, K3228, K3224, K3221, K3035, K2782, K2139, K724, H] ([(22, cel b3034 64 [.string (bs q2811.2.heading.name), .slice ad3021 r3013.length cap3022, .slice ad3233 r3229.length cap3234, .slice ad3031 r3023.length cap3032]), (21, Own.lisP ad2819 cap2820 81 3 encPlace q2811.2.heading.places), (26, Own.rows ad2779 cap2780 64 4 css2781 s2778), (20, Own.blk r2141 (itO b1610 s2127.length (se2562 ++ [i2785]))), (6, Own.rows ad721 cap722 64 4 css723 t720.1), (2, cel b8 85 [.map (some b7)]), (1, Own.map' keS (fun x => Value.string (bs x)) b7 t720.2)] ++ (plO az2128 s2127 (se2562 ++ [i2785]) ++ MK bs726)) w ∧ Has (bs726.map mk1) 241 a [(4, .pointer (some (⟨b8, 0, none⟩))), (13, .map (some b1610)), (20, .slice ad2779 s2778.length cap2780), (23, .pointer (some (⟨b3034, 0, none⟩))), (150, .pointer (some ⟨r2141, 0, none⟩)), (230, .bool t3242)]) ?_ ?_
         ·refine rg (fb 1 U64 J J J J Z50 (ld G50 J J (((sO 22 rfl).drop 1).take 1) rfl (lnL U50 J J (gtI J J J (m1 rfl ?_)))))
          by_cases hb3245 : 8 < (r3013.length : Int)
          ·have hr3246 := if_p hb3245 hx3243
           refine gf' hb3245 rfl (gf' hb3245 rfl (gf' hb3245 rfl (gf' hb3245 rfl (pt hb3245 J J (m1 rfl (gF J J J J (gF J J J J (gF J J J J (gF J J J J (pT J J J J (on ?_)))))))))))
           cases hr3246
           exact cu ⟨rfl, rfl, rfl, rfl, rfl, rfl, tv⟩
          ·have hr3247 := if_n hb3245 hx3243
           refine gt' hb3245 rfl (fb 2 U64 J J J J Z50 (gt' hb3245 rfl (ld G50 J J (((sO 22 rfl).drop 2).take 1) rfl (gt' hb3245 rfl (lnL U50 J J (gt' hb3245 rfl (gtI J J J (pf hb3245 J J (m1 rfl ?_)))))))))
           by_cases hb3248 : 8 < (r3229.length : Int)
           ·have hr3249 := if_p hb3248 hr3247
            refine gf' hb3248 rfl (gf' hb3248 rfl (gf' hb3248 rfl (gf' hb3248 rfl (pt hb3248 J J (on ?_)))))
            cases hr3249
            exact cu ⟨rfl, rfl, rfl, rfl, rfl, rfl, tv⟩
           ·have hr3250 := if_n hb3248 hr3247
            refine gt' hb3248 rfl (fb 3 U64 J J J J Z62 (gt' hb3248 rfl (ld G62 J J ((sO 22 rfl).drop 3) rfl (gt' hb3248 rfl (lnL U62 J J (gt' hb3248 rfl (gtI J J J (pf hb3248 J J (on ?_)))))))))
            cases hr3250
            exact cu ⟨rfl, rfl, rfl, rfl, rfl, rfl, tv⟩
         ·rintro a w ⟨hS, hA⟩
          refine TG.ap ?_ hS hA
          refine cb rfl (fun hc3254 => ?_) (fun hc3254 => ?_)
          ·have hr3255 := if_p hc3254 hr3244
           refine sq (rg (a1 rfl (a1 rfl (on (rt_ ?_)))))
           cases hr3255
           have ho3256 := hg2810 _ rfl
           obtain rfl := sj ho3256
           refine TG.dropM (A := [(22, cel b3034 64 [.string (bs q2811.2.heading.name), .slice ad3021 r3013.length cap3022, .slice ad3233 r3229.length cap3234, .slice ad3031 r3023.length cap3032]), (21, Own.lisP ad2819 cap2820 81 3 encPlace q2811.2.heading.places), (26, Own.rows ad2779 cap2780 64 4 css2781 s2778), (20, Own.blk r2141 (itO b1610 s2127.length (se2562 ++ [i2785]))), (6, Own.rows ad721 cap722 64 4 css723 t720.1), (2, cel b8 85 [.map (some b7)]), (1, Own.map' keS (fun x => Value.string (bs x)) b7 t720.2)]) (TG.eq (σ' := ([(22, cel b3034 64 [.string (bs q2811.2.heading.name), .slice ad3021 r3013.length cap3022, .slice ad3233 r3229.length cap3234, .slice ad3031 r3023.length cap3032]), (21, Own.lisP ad2819 cap2820 81 3 encPlace q2811.2.heading.places), (26, Own.rows ad2779 cap2780 64 4 css2781 s2778), (20, Own.blk r2141 (itO b1610 s2127.length (se2562 ++ [i2785]))), (6, Own.rows ad721 cap722 64 4 css723 t720.1), (2, cel b8 85 [.map (some b7)]), (1, Own.map' keS (fun x => Value.string (bs x)) b7 t720.2)] ++ MK bs726)) rfl (rtM (rtMs (A := [(22, cel b3034 64 [.string (bs q2811.2.heading.name), .slice ad3021 r3013.length cap3022, .slice ad3233 r3229.length cap3234, .slice ad3031 r3023.length cap3032]), (21, Own.lisP ad2819 cap2820 81 3 encPlace q2811.2.heading.places), (26, Own.rows ad2779 cap2780 64 4 css2781 s2778), (20, Own.blk r2141 (itO b1610 s2127.length (se2562 ++ [i2785]))), (6, Own.rows ad721 cap722 64 4 css723 t720.1), (2, cel b8 85 [.map (some b7)]), (1, Own.map' keS (fun x => Value.string (bs x)) b7 t720.2)]) (bs := bs726) (rt0 ?_))))
           intro a w hS hA
           refine ret2 hA J J J ?_
           exact ⟨⟨_, _, rfl, (Sl.nil _ _ _ _ _ (by decide))⟩, hS.ext⟩
          ·have hr3257 := if_f hc3254 hr3244
           refine sk (rg (m1 rfl (ldA G64 Z64 J J (sO 22 rfl) rfl ?_)))
           obtain ⟨hk3258, hr3259⟩ := chk_some hr3257
           have := lenA s2778 [(⟨q2811.2.heading.name, r3013, r3229, r3023⟩ : Heading)]
           refine TG.pack (fun K => Rows (RHeading) 4 K (css2781 ++ [[.string (bs q2811.2.heading.name), .slice ad3021 r3013.length cap3022, .slice ad3233 r3229.length cap3234, .slice ad3031 r3023.length cap3032]]) (s2778 ++ [(⟨q2811.2.heading.name, r3013, r3229, r3023⟩ : Heading)])) (fun H le => (hR2783.mono (RHeading.mono) (le.at 5 rfl)).snoc (cs := [.string (bs q2811.2.heading.name), .slice ad3021 r3013.length cap3022, .slice ad3233 r3229.length cap3234, .slice ad3031 r3023.length cap3032]) (x := (⟨q2811.2.heading.name, r3013, r3229, r3023⟩ : Heading)) J J ⟨_, _, _, _, _, _, rfl, (hu3033.1.mono (Flat.mono _) (le.at 4 rfl)), (hl3235.mono (Flat.mono _) (le.at 0 rfl)), (hu3033.2.mono (Flat.mono _) (le.at 4 rfl))⟩) fun K3263 hR3264 => (ap1R 26 [.string (bs q2811.2.heading.name), .slice ad3021 r3013.length cap3022, .slice ad3233 r3229.length cap3234, .slice ad3031 r3023.length cap3032] (⟨q2811.2.heading.name, r3013, r3229, r3023⟩ : Heading) (l := s2778) (css := css2781) T11.E26 J J J J J J J J J J J J hk3258 fun ad3260 cap3261 u3262 => (a1 rfl (on (TG.del 22 (TG.del 21 ?_)))))
           cases hr3259
           intro a w hS hA
           exact ⟨_, _, hni2790, hlt2789, hg2809 _ rfl, ad3260, cap3261, (css2781 ++ [[Value.string (bs q2811.2.heading.name), Value.slice ad3021 r3013.length cap3022, Value.slice ad3233 r3229.length cap3234, Value.slice ad3031 r3023.length cap3032]]), K3263, hS.selH [0, 7, 8, 9] rfl, hA.cut ⟨rfl, rfl, rfl, rfl, tv⟩, hR3264⟩
     ·obtain ⟨y3265, hst3266, hg3267, hg3268⟩ := hg2130.stp hlt2135 hni2136
      unfold m18_5 at hst3266
      obtain ⟨q3269, hx3270, hr3271⟩ := bd_some hst3266
      obtain ⟨b3272, ad3273, cap3274, ad3275, cap3276, ad3277, cap3278, ad3279, cap3280, ha3281, hh3282⟩ := atG hF2129 hx3270
      obtain ⟨rfl, rfl⟩ := Prod.mk.inj (sj (hi2134.symm.trans hh3282))
      refine ex J J J (on (sq (cT J J (sk (bk (sq (rg (enM (ke := keS) 14 J J J (mO 7 rfl) hn2058 hh3282 (focG [(14, Own.blk r2057 (itO b1610 e1872.length (se2091 ++ [i2131]))), (7, Own.map' keS (fun v : Value => v) b1610 hs1877), (6, Own.rows ad721 cap722 64 4 css723 t720.1), (2, cel b8 85 [.map (some b7)]), (1, Own.map' keS (fun x => Value.string (bs x)) b7 t720.2)] 15 16 17 18 19 ha3281 hx3270 (TG.eq (σ' := ([(15, cel b3272 98 [.string (bs q3269.2.heading.name), .slice ad3273 q3269.2.heading.variants.length cap3274, .slice ad3275 q3269.2.heading.also.length cap3276, .slice ad3277 q3269.2.heading.places.length cap3278, .slice ad3279 q3269.2.heads.length cap3280]), (16, Own.list ad3273 cap3274 9 1 encS q3269.2.heading.variants), (17, Own.list ad3275 cap3276 9 1 encS q3269.2.heading.also), (18, Own.list ad3277 cap3278 81 3 encPlace q3269.2.heading.places), (19, Own.list ad3279 cap3280 9 1 encS q3269.2.heads), (14, Own.blk r2057 (itO b1610 e1872.length (se2091 ++ [i2131]))), (7, Own.map' keS (fun v : Value => v) b1610 hs1877), (6, Own.rows ad721 cap722 64 4 css723 t720.1), (2, cel b8 85 [.map (some b7)]), (1, Own.map' keS (fun x => Value.string (bs x)) b7 t720.2)] ++ (famO entG (az2128.eraseIdx i2131) (s2127.eraseIdx i2131) ++ MK bs726))) rfl (ex J J J ?_)))))))))))
      refine a1 rfl (on (rg (m1 rfl (m1 rfl (nl J J (fb 4 U98 J J J J Z50 (ld G50 J J ((sO 15 rfl).drop 4) rfl ?_)))))))
      obtain ⟨r3288, hx3289, hr3290⟩ := bd_some hr3271
      refine clL (v := .string (bs r3288)) C54 J J J J (fun w hS => by
        have hf3287 : FnV M Tryz.prog (hp w) (.func (.func 55) [].toArray [].toArray) (SF2 Vs Vs (Value.int .i64) (m55)) := ⟨55, [], [], rfl, C55, fun w_ K_ args_ v_ hK hw hs => by obtain ⟨u0_, u1_, x0_, x1_, r_, rfl, h0_, h1_, hx, rfl⟩ := hs; cases h0_; cases h1_; exact w55  x0_ x1_  hx⟩
        exact w54 (Hp.le.refl (hp w)) (list_sl (H := hp w) (enc := encS) (size := 1) (ad := ad3279) (cap := cap3280) (el := 9) (l := q3269.2.heads) (fun _ => rfl) (hS.get (t := 19) rfl) (fun _ _ _ ho => ho)) (cmp := (m55)) hf3287 hx3289) ?_
      refine nl J J (fb 0 U98 J J J J Z64 (fb 0 U64 J J J J Z9 (sto 15 (cs := [.string (bs r3288)]) Z9 J J J J J J J (on (backG [(15, cel b3272 98 [.string (bs r3288), .slice ad3273 q3269.2.heading.variants.length cap3274, .slice ad3275 q3269.2.heading.also.length cap3276, .slice ad3277 q3269.2.heading.places.length cap3278, .slice ad3279 q3269.2.heads.length cap3280]), (16, Own.list ad3273 cap3274 9 1 encS q3269.2.heading.variants), (17, Own.list ad3275 cap3276 9 1 encS q3269.2.heading.also), (18, Own.list ad3277 cap3278 81 3 encPlace q3269.2.heading.places), (19, Own.list ad3279 cap3280 9 1 encS q3269.2.heads), (14, Own.blk r2057 (itO b1610 e1872.length (se2091 ++ [i2131]))), (7, Own.map' keS (fun v : Value => v) b1610 hs1877), (6, Own.rows ad721 cap722 64 4 css723 t720.1), (2, cel b8 85 [.map (some b7)]), (1, Own.map' keS (fun x => Value.string (bs x)) b7 t720.2)] (A' := [(14, Own.blk r2057 (itO b1610 e1872.length (se2091 ++ [i2131]))), (7, Own.map' keS (fun v : Value => v) b1610 hs1877), (6, Own.rows ad721 cap722 64 4 css723 t720.1), (2, cel b8 85 [.map (some b7)]), (1, Own.map' keS (fun x => Value.string (bs x)) b7 t720.2)]) 15 16 17 18 19 (b := b3272) (p' := (ad3273, cap3274)) (q' := (ad3275, cap3276)) (r' := (ad3277, cap3278)) (s' := (ad3279, cap3280)) (y' := (⟨⟨r3288, q3269.2.heading.variants, q3269.2.heading.also, q3269.2.heading.places⟩, q3269.2.heads⟩ : grown)) ha3281 hx3270 J J J J J J J J ?_)))))
      have hF3291 : Fam hvG hs1877 (az2128.set i2131 (b3272, (ad3273, cap3274), (ad3275, cap3276), (ad3277, cap3278), (ad3279, cap3280))) (s2127.set i2131 (q3269.1, (⟨⟨r3288, q3269.2.heading.variants, q3269.2.heading.also, q3269.2.heading.places⟩, q3269.2.heads⟩ : grown))) := updF hF2129 ha3281 hx3270 rfl
      refine TG.eq (σ' := ([(14, Own.blk r2057 (itO b1610 e1872.length (se2091 ++ [i2131]))), (7, Own.map' keS (fun v : Value => v) b1610 hs1877), (6, Own.rows ad721 cap722 64 4 css723 t720.1), (2, cel b8 85 [.map (some b7)]), (1, Own.map' keS (fun x => Value.string (bs x)) b7 t720.2)] ++ (famO entG (az2128.set i2131 (b3272, (ad3273, cap3274), (ad3275, cap3276), (ad3277, cap3278), (ad3279, cap3280))) (s2127.set i2131 (q3269.1, (⟨⟨r3288, q3269.2.heading.variants, q3269.2.heading.also, q3269.2.heading.places⟩, q3269.2.heads⟩ : grown))) ++ MK bs726))) rfl ?_
      cases hr3290
      intro a w hS hA
      exact ⟨_, _, hni2136, hlt2135, hg3267 _ rfl, (az2128.set i2131 (b3272, (ad3273, cap3274), (ad3275, cap3276), (ad3277, cap3278), (ad3279, cap3280))), hS, hA.cut ⟨rfl, rfl, rfl, tv⟩, hF3291⟩

theorem w139 {M : Prop} {W : World} {H : Hp} (hH : H.le (hp W)) (hg : Gv M H) {cs_p_0 : List Value} (p_0 : Place) (h_p_0 : (Flat encPlace) H cs_p_0 p_0) {r : Bytes} (hr : m139 p_0 = some r) : Calls Tryz.prog 139 [.agg cs_p_0.toArray].toArray W (RetS M W (.string (bs r))) := by
 obtain rfl := h_p_0
 unfold m139 at hr
 refine enterG (M := M) Tryz.func139 rfl Tryz.ntmps139 rfl hH ?_
 refine sq (rg (bI (cs := [.int .i64 p_0.volume, .int .i64 p_0.from_, .int .i64 p_0.to_]) J J J fun q1 K2 hK3 => (a1 rfl (on (sq ?_)))))
 obtain ⟨r4, hx5, hr6⟩ := bd_some hr
 obtain ⟨hk7, hr8⟩ := chk_some hr6
 obtain ⟨r9, hx10, hr11⟩ := bd_some hr8
 refine drG 7 mixed (by kernel_rfl) rfl (dt rfl (fb 0 U81 J J J J Z3 fin1) (dt rfl (ld G3 J J ((sS 1 rfl hK3).take 1) rfl fin1) (dt rfl (clS C179 J J J J (fun w H hH le => w179 hH (hg.mono (le.at 2 rfl)) p_0.volume hx5) fin1) (dt rfl (cat J J J hk7 fin1) (dt rfl (fb 1 U81 J J J J Z3 fin1) (dt rfl (ld G3 J J (((sS 1 rfl hK3).drop 1).take 1) rfl fin1) (dt rfl (clS C179 J J J J (fun w H hH le => w179 hH (hg.mono (le.at 2 rfl)) p_0.from_ hx10) fin1) (DF.nil fun K12 hF => ?_))))))))
 obtain ⟨hk13, hr14⟩ := chk_some hr11
 refine cat J J J hk13 (a1 rfl (on (sq (sq (rg (fb 2 U81 J J J J Z3 (ld G3 J J ((sS 1 rfl hK3).drop 2) rfl (fb 1 U81 J J J J Z3 (ld G3 J J (((sS 1 rfl hK3).drop 1).take 1) rfl (gtI J J J (on ?_)))))))))))
 obtain ⟨t25, hx26, hr27⟩ := bd_some hr14
 refine jn (fun a w => St M W H [K12, K2, H] [] w ∧ Has [] 24 a [(3, .string (bs t25))]) ?_ ?_
 ·refine ci rfl (fun hc28 => ?_) (fun hc28 => ?_)
  ·have hr29 := if_p hc28 hx26
   refine rg (m1 rfl (fb 2 U81 J J J J Z3 (ld G3 J J ((sS 1 rfl hK3).drop 2) rfl ?_)))
   obtain ⟨r30, hx31, hr32⟩ := bd_some hr29
   refine clS C179 J J J J (fun w H hH le => w179 hH (hg.mono (le.at 2 rfl)) p_0.to_ hx31) ?_
   obtain ⟨hk33, hr34⟩ := chk_some hr32
   refine cat J J J hk33 ?_
   obtain ⟨hk35, hr36⟩ := chk_some hr34
   refine cat J J J hk35 (a1 rfl (on ?_))
   cases hr36
   exact cu ⟨rfl, tv⟩
  ·have hr37 := if_n hc28 hx26
   refine sk ?_
   cases hr37
   exact cu ⟨rfl, tv⟩
 ·rintro a w ⟨hS, hA⟩
  refine TG.ap ?_ hS hA
  refine sq (rg (m1 rfl (a1 rfl (on (rt_ ?_)))))
  cases hr27
  intro a w hS hA
  refine ret1 hA J J ?_
  exact ⟨rfl, hS.ext⟩

theorem w100 {M : Prop} {W : World} {H : Hp} (hH : H.le (hp W)) (hg : Gv M H) {cs_h_0 : List Value} (h_0 : Heading) (h_h_0 : (RHeading) H cs_h_0 h_0) {r : Bytes} (hr : m100 h_0 = some r) : Calls Tryz.prog 100 [.agg cs_h_0.toArray].toArray W (RetS M W (.string (bs r))) := by
 have hh_h_0 := h_h_0
 obtain ⟨ad1, cap2, ad4, cap5, ad7, cap8, rfl, hl3, hl6, hl9⟩ := h_h_0
 have := hl3.len
 have := hl6.len
 have := hl9.len
 unfold m100 at hr
 refine enterG (M := M) Tryz.func100 rfl Tryz.ntmps100 rfl hH ?_
 refine sq (rg (bI (cs := [.string (bs h_0.name), .slice ad1 h_0.variants.length cap2, .slice ad4 h_0.also.length cap5, .slice ad7 h_0.places.length cap8]) J J J fun q10 K11 hK12 => (a1 rfl (on (sq (rg (a1 rfl (on (sq (sq (rg ?_)))))))))))
 refine fb 3 U64 J J J J Z62 (ld G62 J J ((sS 0 rfl hK12).drop 3) rfl (lnL U62 J J (m1 rfl (on (TG.nilRow 2 9 1 (TG.as 2 (z := Own.list none 0 9 1 encS ([] : List Bytes)) J J ?_))))))
 obtain ⟨e94, hl95, hr96⟩ := bd_some hr
 refine jn (fun a w => ∃ (ad97 : Option Addr) (cap98 : Nat), St M W H [K11, H] [(2, Own.list ad97 cap98 9 1 encS e94)] w ∧ Has [] 38 a [(1, .pointer (some q10)), (3, .slice ad97 e94.length cap98)]) ?_ ?_
 ·refine bk ?_
  refine lp hl95 (fun s99 a w => ∃ (ad100 : Option Addr) (cap101 : Nat), St M W H [K11, H] [(2, Own.list ad100 cap101 9 1 encS s99.2)] w ∧ Has [] 38 a [(1, .pointer (some q10)), (3, .slice ad100 s99.2.length cap101), (8, .slice ad7 h_0.places.length cap8), (9, .int .i64 (h_0.places.length : Int)), (10, .int .i64 (s99.1 : Int))]) ?_ ?_
  ·intro a w hS hA
   exact ⟨none, 0, hS, hA.cut ⟨rfl, rfl, rfl, rfl, rfl, tv⟩⟩
  ·rintro j s99 y104 hr102 hz103 a w ⟨ad100, cap101, hS, hA⟩
   refine TG.ap ?_ hS hA
   unfold m100_1 at hr102
   refine sq (rg (ltI J J J (on (sq ?_))))
   refine ci rfl (fun hc108 => ?_) (fun hc108 => ?_)
   ·have hr109 := if_p hc108 hr102
    refine sk (sq (bk (sq (rg ?_))))
    obtain ⟨x131, hx132, hr133⟩ := bd_some hr109
    obtain ⟨p134, rfl⟩ := hl9.adr hx132
    obtain ⟨cs135, hcs136, hq137, hr138⟩ := hl9.at hx132
    obtain rfl := hr138
    refine iaP U62 Z81 J J J J (lt_of hx132) (ldA G81 Z81 J J (sS 1 rfl hq137) rfl (va (cs := [.int .i64 x131.volume, .int .i64 x131.from_, .int .i64 x131.to_]) Tryz.zeroValue81 Z81 J J J J J J J J fun q139 K140 hK141 => (on (rg (m1 rfl (ldA G81 Z81 J J (sS 0 rfl hK141) rfl ?_))))))
    obtain ⟨r142, hx143, hr144⟩ := bd_some hr133
    refine clS C139 J J J J (fun w H hH le => w139 hH (hg.mono (le.at 2 rfl)) x131 rfl hx143) ?_
    obtain ⟨hk145, hr146⟩ := chk_some hr144
    refine cat J J J hk145 ?_
    obtain ⟨hk147, hr148⟩ := chk_some hr146
    have := lenA s99.2 [([32] ++ r142)]
    have := len1 ([32] ++ r142)
    refine ap1 2 encS (l := s99.2) ([32] ++ r142) T11.E50 J J J J J J J J J J J J hk147 fun ad149 cap150 u151 => (a1 rfl (on (rg (adI J J J (by omega) (m1 rfl (on ?_))))))
    cases hr148
    intro a w hS hA
    exact ⟨_, hz103, ad149, cap150, hS.selH [1, 2] rfl, hA.cut ⟨rfl, rfl, rfl, rfl, rfl, tv⟩⟩
   ·have hr152 := if_n hc108 hr102
    refine xt rfl ?_
    cases hr152
    obtain rfl := Fin.out hz103
    intro a w hS hA
    exact ⟨ad100, cap101, hS, hA.cut ⟨rfl, rfl, tv⟩⟩
 ·rintro a w ⟨ad97, cap98, hS, hA⟩
  apply TG.ap ?_ hS hA
  refine sq ?_
  obtain ⟨hk153, hr154⟩ := chk_some hr96
  obtain ⟨r155, hx156, hr157⟩ := bd_some hr154
  refine drG 5 mixed (by kernel_rfl) rfl (dt rfl (fb 0 U64 J J J J Z9 fin1) (dt rfl (ld G9 J J ((sS 1 rfl hK12).take 1) rfl fin1) (dt rfl (cat J J J hk153 fin1) (dt rfl (m1 rfl fin1) (dt rfl (clL C140 J J J J (fun w hS => w140 (Hp.le.refl (hp w)) (hg.mono (hS.hp 2 rfl)) (list_sl (H := hp w) (enc := encS) (size := 1) (ad := ad97) (cap := cap98) (el := 9) (l := e94) (fun _ => rfl) (hS.get (t := 2) rfl) (fun _ _ _ ho => ho)) [44] hx156) fin1) (DF.nil fun K158 hF => ?_))))))
  obtain ⟨hk159, hr160⟩ := chk_some hr157
  refine cat J J J hk159 (a1 rfl (on (sq (sq (rg (fb 2 U64 J J J J Z50 (ld G50 J J (((sS 1 rfl hK12).drop 2).take 1) rfl (lnL U50 J J (gtI J J J (on ?_))))))))))
  obtain ⟨t171, hx172, hr173⟩ := bd_some hr160
  refine jn (fun a w => St M W H [K158, K11, H] [(2, Own.list ad97 cap98 9 1 encS e94)] w ∧ Has [] 38 a [(6, .string (bs t171))]) ?_ ?_
  ·refine ci rfl (fun hc174 => ?_) (fun hc174 => ?_)
   ·have hr175 := if_p hc174 hx172
    refine rg (m1 rfl (fb 2 U64 J J J J Z50 (ld G50 J J (((sS 1 rfl hK12).drop 2).take 1) rfl ?_)))
    obtain ⟨r176, hx177, hr178⟩ := bd_some hr175
    refine clS C140 J J J J (fun w H hH le => w140 hH (hg.mono (le.at 2 rfl)) (hl6.mono (Flat.mono _) (le.at 2 rfl)) [44, 32] hx177) ?_
    obtain ⟨hk179, hr180⟩ := chk_some hr178
    refine cat J J J hk179 ?_
    obtain ⟨hk181, hr182⟩ := chk_some hr180
    refine cat J J J hk181 (a1 rfl (on ?_))
    cases hr182
    exact cu ⟨rfl, tv⟩
   ·have hr183 := if_n hc174 hx172
    refine sk ?_
    cases hr183
    exact cu ⟨rfl, tv⟩
  ·rintro a w ⟨hS, hA⟩
   refine TG.ap ?_ hS hA
   refine sq (rg (m1 rfl (a1 rfl (on (rt_ ?_)))))
   cases hr173
   intro a w hS hA
   refine ret1 hA J J ?_
   exact ⟨rfl, hS.ext⟩

end T11
