/-
 Walks of functions of layer 4: each call comes to what the model says. Printed by a program of ours.
-/
import Derived.Test.YtelimceikglofaaGreatDoorWalkB
set_option linter.all false
set_option maxHeartbeats 4000000
namespace T4
open Go Go.Proofs Pk
theorem w14 {M : Prop} {W : World} {H : Hp} (hH : H.le (hp W)) (hg : Gv M H)  {r : Bool} (hr : m14 = some r) : Calls Tryz.prog 14 [].toArray W (RetS M W (.bool r)) := by
 unfold m14 at hr
 refine enterG (M := M) Tryz.func14 rfl Tryz.ntmps14 rfl hH ?_
 refine sq (rg (a1 rfl (on (sq (rg ?_)))))
 obtain ⟨r1, hx2, hr3⟩ := bd_some hr
 refine clK C48 rfl rfl rfl rfl (fun w H hH le => w48 hH  hx2) ?_
 rintro v_ K4 ⟨cs5, ad7, cap8, rfl, hr6, hl9⟩
 have hr10 := hr6
 obtain ⟨ad11, cap12, ad14, cap15, ad17, cap18, rfl, hl13, hl16, hl19⟩ := hr6
 have := hl13.len
 have := hl16.len
 have := hl19.len
 have := hl9.len
 refine m1 rfl (ex rfl rfl rfl (ex rfl rfl rfl (va (cs := [.slice ad11 r1.1.numbers.length cap12, .slice ad14 r1.1.names.length cap15, .slice ad17 r1.1.nots.length cap18]) Tryz.zeroValue36 Z36 rfl rfl rfl rfl rfl rfl rfl rfl fun q20 K21 hK22 => (a1 rfl (on (sq (rg ?_)))))))
 obtain ⟨r23, hx24, hr25⟩ := bd_some hr3
 refine clK C49 rfl rfl rfl rfl (fun w H hH le => w49 hH  hx24) ?_
 rintro v_ K26 ⟨cs27, ad29, cap30, rfl, hr28, hl31⟩
 have hr32 := hr28
 obtain ⟨ad33, cap34, rfl, hl35⟩ := hr28
 have := hl35.len
 have := hl31.len
 refine m1 rfl (ex rfl rfl rfl (ex rfl rfl rfl (va (cs := [.slice ad33 r23.1.words.length cap34, .int .i64 r23.1.out, .int .i64 r23.1.within]) Tryz.zeroValue56 Z56 rfl rfl rfl rfl rfl rfl rfl rfl fun q36 K37 hK38 => (a1 rfl (on (sq (rg (ldA G36 Z36 rfl rfl (sS 2 rfl hK22) rfl (bS (cs := [.string (bs [110, 111, 116]), .string (bs [116, 101, 110])]) T4.E24 rfl rfl rfl rfl fun q39 K40 hq41 hK42 => ?_)))))))))
 have hl43 : Sl (Flat encS) 1 K40 (some q39) 2 ([[110, 111, 116], [116, 101, 110]] : List Bytes) := Sl.litR (css := [[.string (bs [110, 111, 116])], [.string (bs [116, 101, 110])]]) (l := ([[110, 111, 116], [116, 101, 110]] : List Bytes)) ⟨⟨rfl, rfl, rfl⟩, ⟨rfl, rfl, rfl⟩, tv⟩ hq41 hK42 rfl
 have := hl43.len
 refine bS (cs := [.string (bs [110, 101, 118, 101, 114]), .string (bs [49, 50])]) T4.E24 rfl rfl rfl rfl fun q44 K45 hq46 hK47 => ?_
 have hl48 : Sl (Flat encS) 1 K45 (some q44) 2 ([[110, 101, 118, 101, 114], [49, 50]] : List Bytes) := Sl.litR (css := [[.string (bs [110, 101, 118, 101, 114])], [.string (bs [49, 50])]]) (l := ([[110, 101, 118, 101, 114], [49, 50]] : List Bytes)) ⟨⟨rfl, rfl, rfl⟩, ⟨rfl, rfl, rfl⟩, tv⟩ hq46 hK47 rfl
 have := hl48.len
 obtain ⟨r49, hx50, hr51⟩ := bd_some hr25
 refine clS C18 rfl rfl rfl rfl (fun w H hH le => w18 hH (hg.mono (le.at 6 rfl)) r1.1 (RLexicon.mono _ _ _ _ (le.at 5 rfl) hr10) (swaps := []) (Sl.nil _ _ _ _ _ (by decide)) (hl43.mono (Flat.mono _) (le.at 1 rfl)) (hl48.mono (Flat.mono _) (le.at 0 rfl)) hx50) (m1 rfl (ex rfl rfl rfl (ex rfl rfl rfl (a1 rfl (a1 rfl (on (sq (rg (ldA G36 Z36 rfl rfl (sS 4 rfl hK22) rfl (bS (cs := [.string (bs [83, 109, 105, 116, 104]), .string (bs [116, 101, 110])]) T4.E24 rfl rfl rfl rfl fun q52 K53 hq54 hK55 => ?_))))))))))
 have hl56 : Sl (Flat encS) 1 K53 (some q52) 2 ([[83, 109, 105, 116, 104], [116, 101, 110]] : List Bytes) := Sl.litR (css := [[.string (bs [83, 109, 105, 116, 104])], [.string (bs [116, 101, 110])]]) (l := ([[83, 109, 105, 116, 104], [116, 101, 110]] : List Bytes)) ⟨⟨rfl, rfl, rfl⟩, ⟨rfl, rfl, rfl⟩, tv⟩ hq54 hK55 rfl
 have := hl56.len
 refine bS (cs := [.string (bs [116, 101, 110]), .string (bs [74, 111, 110, 101, 115]), .string (bs [83, 109, 105, 116, 104])]) T4.E24 rfl rfl rfl rfl fun q57 K58 hq59 hK60 => ?_
 have hl61 : Sl (Flat encS) 1 K58 (some q57) 3 ([[116, 101, 110], [74, 111, 110, 101, 115], [83, 109, 105, 116, 104]] : List Bytes) := Sl.litR (css := [[.string (bs [116, 101, 110])], [.string (bs [74, 111, 110, 101, 115])], [.string (bs [83, 109, 105, 116, 104])]]) (l := ([[116, 101, 110], [74, 111, 110, 101, 115], [83, 109, 105, 116, 104]] : List Bytes)) ⟨⟨rfl, rfl, rfl⟩, ⟨rfl, rfl, rfl⟩, ⟨rfl, rfl, rfl⟩, tv⟩ hq59 hK60 rfl
 have := hl61.len
 obtain ⟨r62, hx63, hr64⟩ := bd_some hr51
 refine clS C18 rfl rfl rfl rfl (fun w H hH le => w18 hH (hg.mono (le.at 8 rfl)) r1.1 (RLexicon.mono _ _ _ _ (le.at 7 rfl) hr10) (swaps := []) (Sl.nil _ _ _ _ _ (by decide)) (hl56.mono (Flat.mono _) (le.at 1 rfl)) (hl61.mono (Flat.mono _) (le.at 0 rfl)) hx63) (m1 rfl (ex rfl rfl rfl (ex rfl rfl rfl (a1 rfl (a1 rfl (on (sq (rg (ldA G36 Z36 rfl rfl (sS 6 rfl hK22) rfl (m1 rfl (ldA G56 Z56 rfl rfl (sS 4 rfl hK38) rfl ?_)))))))))))
 refine m1 rfl ?_
 obtain ⟨r65, hx66, hr67⟩ := bd_some hr64
 refine clK C42 rfl rfl rfl rfl (fun w H hH le => w42 hH (hg.mono (le.at 8 rfl)) r1.1 (RLexicon.mono _ _ _ _ (le.at 7 rfl) hr10) (hl9.mono (Flat.mono _) (le.at 7 rfl)) r23.1 (RReport.mono _ _ _ _ (le.at 5 rfl) hr32) (hl31.mono (RRequest.mono) (le.at 5 rfl)) hx66) ?_
 rintro v_ K68 ⟨ad69, cap70, rfl, hl71⟩
 have := hl71.len
 refine m1 rfl (ex rfl rfl rfl (ex rfl rfl rfl (a1 rfl (a1 rfl (on (sq (rg (bS (cs := [.string (bs [83, 109, 105, 116, 104])]) T4.E24 rfl rfl rfl rfl fun q72 K73 hq74 hK75 => ?_))))))))
 have hl76 : Sl (Flat encS) 1 K73 (some q72) 1 ([[83, 109, 105, 116, 104]] : List Bytes) := Sl.litR (css := [[.string (bs [83, 109, 105, 116, 104])]]) (l := ([[83, 109, 105, 116, 104]] : List Bytes)) ⟨⟨rfl, rfl, rfl⟩, tv⟩ hq74 hK75 rfl
 have := hl76.len
 refine bS (cs := [.string (bs [83, 109, 105, 116, 104])]) T4.E24 rfl rfl rfl rfl fun q77 K78 hq79 hK80 => ?_
 have hl81 : Sl (Flat encS) 1 K78 (some q77) 1 ([[83, 109, 105, 116, 104]] : List Bytes) := Sl.litR (css := [[.string (bs [83, 109, 105, 116, 104])]]) (l := ([[83, 109, 105, 116, 104]] : List Bytes)) ⟨⟨rfl, rfl, rfl⟩, tv⟩ hq79 hK80 rfl
 have := hl81.len
 refine bu (cs := [.slice (some q72) 1 1, .slice (some q77) 1 1, .int .i64 (-1)]) T4.B108 rfl rfl rfl (bS (cs := [.string (bs [112, 97, 105, 100])]) T4.E24 rfl rfl rfl rfl fun q82 K83 hq84 hK85 => ?_)
 have hl86 : Sl (Flat encS) 1 K83 (some q82) 1 ([[112, 97, 105, 100]] : List Bytes) := Sl.litR (css := [[.string (bs [112, 97, 105, 100])]]) (l := ([[112, 97, 105, 100]] : List Bytes)) ⟨⟨rfl, rfl, rfl⟩, tv⟩ hq84 hK85 rfl
 have := hl86.len
 refine bS (cs := [.string (bs [104, 97, 115]), .string (bs [112, 97, 105, 100])]) T4.E24 rfl rfl rfl rfl fun q87 K88 hq89 hK90 => ?_
 have hl91 : Sl (Flat encS) 1 K88 (some q87) 2 ([[104, 97, 115], [112, 97, 105, 100]] : List Bytes) := Sl.litR (css := [[.string (bs [104, 97, 115])], [.string (bs [112, 97, 105, 100])]]) (l := ([[104, 97, 115], [112, 97, 105, 100]] : List Bytes)) ⟨⟨rfl, rfl, rfl⟩, ⟨rfl, rfl, rfl⟩, tv⟩ hq89 hK90 rfl
 have := hl91.len
 refine bu (cs := [.slice (some q82) 1 1, .slice (some q87) 2 2, .int .i64 0]) T4.B108 rfl rfl rfl (bS (cs := [.string (bs [116, 101, 110])]) T4.E24 rfl rfl rfl rfl fun q92 K93 hq94 hK95 => ?_)
 have hl96 : Sl (Flat encS) 1 K93 (some q92) 1 ([[116, 101, 110]] : List Bytes) := Sl.litR (css := [[.string (bs [116, 101, 110])]]) (l := ([[116, 101, 110]] : List Bytes)) ⟨⟨rfl, rfl, rfl⟩, tv⟩ hq94 hK95 rfl
 have := hl96.len
 refine bS (cs := [.string (bs [49, 50])]) T4.E24 rfl rfl rfl rfl fun q97 K98 hq99 hK100 => ?_
 have hl101 : Sl (Flat encS) 1 K98 (some q97) 1 ([[49, 50]] : List Bytes) := Sl.litR (css := [[.string (bs [49, 50])]]) (l := ([[49, 50]] : List Bytes)) ⟨⟨rfl, rfl, rfl⟩, tv⟩ hq99 hK100 rfl
 have := hl101.len
 refine bu (cs := [.slice (some q92) 1 1, .slice (some q97) 1 1, .int .i64 1]) T4.B108 rfl rfl rfl (bS (cs := [.string (bs [121, 101, 115])]) T4.E24 rfl rfl rfl rfl fun q102 K103 hq104 hK105 => ?_)
 have hl106 : Sl (Flat encS) 1 K103 (some q102) 1 ([[121, 101, 115]] : List Bytes) := Sl.litR (css := [[.string (bs [121, 101, 115])]]) (l := ([[121, 101, 115]] : List Bytes)) ⟨⟨rfl, rfl, rfl⟩, tv⟩ hq104 hK105 rfl
 have := hl106.len
 refine bS (cs := [.string (bs [121, 101, 115])]) T4.E24 rfl rfl rfl rfl fun q107 K108 hq109 hK110 => ?_
 have hl111 : Sl (Flat encS) 1 K108 (some q107) 1 ([[121, 101, 115]] : List Bytes) := Sl.litR (css := [[.string (bs [121, 101, 115])]]) (l := ([[121, 101, 115]] : List Bytes)) ⟨⟨rfl, rfl, rfl⟩, tv⟩ hq109 hK110 rfl
 have := hl111.len
 refine bu (cs := [.slice (some q102) 1 1, .slice (some q107) 1 1, .int .i64 (-1)]) T4.B108 rfl rfl rfl (bS (cs := [.slice (some q72) 1 1, .slice (some q77) 1 1, .int .i64 (-1), .slice (some q82) 1 1, .slice (some q87) 2 2, .int .i64 0, .slice (some q92) 1 1, .slice (some q97) 1 1, .int .i64 1, .slice (some q102) 1 1, .slice (some q107) 1 1, .int .i64 (-1)]) T4.E95 rfl rfl rfl rfl fun q112 K113 hq114 hK115 => ?_)
 refine TG.pack (fun K => Sl (RSegment) 3 K (some q112) 4 ([(⟨([[83, 109, 105, 116, 104]] : List Bytes), ([[83, 109, 105, 116, 104]] : List Bytes), (-1)⟩ : Segment), (⟨([[112, 97, 105, 100]] : List Bytes), ([[104, 97, 115], [112, 97, 105, 100]] : List Bytes), 0⟩ : Segment), (⟨([[116, 101, 110]] : List Bytes), ([[49, 50]] : List Bytes), 1⟩ : Segment), (⟨([[121, 101, 115]] : List Bytes), ([[121, 101, 115]] : List Bytes), (-1)⟩ : Segment)] : List Segment)) (fun H le => Sl.litR (css := [[.slice (some q72) 1 1, .slice (some q77) 1 1, .int .i64 (-1)], [.slice (some q82) 1 1, .slice (some q87) 2 2, .int .i64 0], [.slice (some q92) 1 1, .slice (some q97) 1 1, .int .i64 1], [.slice (some q102) 1 1, .slice (some q107) 1 1, .int .i64 (-1)]]) (l := ([(⟨([[83, 109, 105, 116, 104]] : List Bytes), ([[83, 109, 105, 116, 104]] : List Bytes), (-1)⟩ : Segment), (⟨([[112, 97, 105, 100]] : List Bytes), ([[104, 97, 115], [112, 97, 105, 100]] : List Bytes), 0⟩ : Segment), (⟨([[116, 101, 110]] : List Bytes), ([[49, 50]] : List Bytes), 1⟩ : Segment), (⟨([[121, 101, 115]] : List Bytes), ([[121, 101, 115]] : List Bytes), (-1)⟩ : Segment)] : List Segment)) ⟨⟨rfl, rfl, ⟨_, _, _, _, rfl, (hl76.mono (Flat.mono _) (le.at 8 rfl)), (hl81.mono (Flat.mono _) (le.at 7 rfl))⟩⟩, ⟨rfl, rfl, ⟨_, _, _, _, rfl, (hl86.mono (Flat.mono _) (le.at 6 rfl)), (hl91.mono (Flat.mono _) (le.at 5 rfl))⟩⟩, ⟨rfl, rfl, ⟨_, _, _, _, rfl, (hl96.mono (Flat.mono _) (le.at 4 rfl)), (hl101.mono (Flat.mono _) (le.at 3 rfl))⟩⟩, ⟨rfl, rfl, ⟨_, _, _, _, rfl, (hl106.mono (Flat.mono _) (le.at 2 rfl)), (hl111.mono (Flat.mono _) (le.at 1 rfl))⟩⟩, tv⟩ hq114 (hK115.mono (le.at 0 rfl)) rfl) fun K117 hl116 => ?_
 have := hl116.len
 refine a1 rfl (on (sq (sq ?_)))
 obtain ⟨t136, hx137, hr138⟩ := bd_some hr67
 refine jn (fun a w => St M W H [K117, K113, K108, K103, K98, K93, K88, K83, K78, K73, K68, K58, K53, K45, K40, K37, K26, K21, K4, H] [] w ∧ Has [] 199 a [(1, .pointer (some q20)), (2, .slice ad7 r1.2.length cap8), (3, .pointer (some q36)), (92, .bool t136)]) ?_ ?_
 ·refine rg (m1 rfl (neI rfl rfl rfl (m1 rfl ?_)))
  by_cases hb139 : r49.2 ≠ 0
  ·have hr140 := if_p hb139 hx137
   refine gf' hb139 rfl (gf' hb139 rfl (pt hb139 rfl rfl (m1 rfl (gF rfl rfl rfl rfl (gF rfl rfl rfl rfl (pT rfl rfl rfl rfl (m1 rfl (gF rfl rfl rfl rfl (gF rfl rfl rfl rfl (pT rfl rfl rfl rfl (m1 rfl ?_)))))))))))
   refine gF rfl rfl rfl rfl (gF rfl rfl rfl rfl (pT rfl rfl rfl rfl (m1 rfl (gF rfl rfl rfl rfl (gF rfl rfl rfl rfl (gF rfl rfl rfl rfl (gF rfl rfl rfl rfl (pT rfl rfl rfl rfl (on ?_)))))))))
   cases hr140
   exact cu ⟨rfl, rfl, rfl, rfl, tv⟩
  ·have hr141 := if_n hb139 hx137
   refine gt' hb139 rfl (m1 rfl (gt' hb139 rfl (neI rfl rfl rfl (pf hb139 rfl rfl (m1 rfl ?_)))))
   by_cases hb142 : r49.1 ≠ 1
   ·have hr143 := if_p hb142 hr141
    refine gf' hb142 rfl (gf' hb142 rfl (pt hb142 rfl rfl (m1 rfl (gF rfl rfl rfl rfl (gF rfl rfl rfl rfl (pT rfl rfl rfl rfl (m1 rfl (gF rfl rfl rfl rfl (gF rfl rfl rfl rfl (pT rfl rfl rfl rfl (m1 rfl ?_)))))))))))
    refine gF rfl rfl rfl rfl (gF rfl rfl rfl rfl (gF rfl rfl rfl rfl (gF rfl rfl rfl rfl (pT rfl rfl rfl rfl (on ?_)))))
    cases hr143
    exact cu ⟨rfl, rfl, rfl, rfl, tv⟩
   ·have hr144 := if_n hb142 hr141
    refine gt' hb142 rfl (m1 rfl (gt' hb142 rfl (neI rfl rfl rfl (pf hb142 rfl rfl (m1 rfl ?_)))))
    by_cases hb145 : r62.2 ≠ 0
    ·have hr146 := if_p hb145 hr144
     refine gf' hb145 rfl (gf' hb145 rfl (pt hb145 rfl rfl (m1 rfl (gF rfl rfl rfl rfl (gF rfl rfl rfl rfl (pT rfl rfl rfl rfl (m1 rfl (gF rfl rfl rfl rfl (gF rfl rfl rfl rfl (gF rfl rfl rfl rfl (gF rfl rfl rfl rfl ?_)))))))))))
     refine pT rfl rfl rfl rfl (on ?_)
     cases hr146
     exact cu ⟨rfl, rfl, rfl, rfl, tv⟩
    ·have hr147 := if_n hb145 hr144
     refine gt' hb145 rfl (m1 rfl (gt' hb145 rfl (neI rfl rfl rfl (pf hb145 rfl rfl (m1 rfl ?_)))))
     by_cases hb148 : r62.1 ≠ 3
     ·have hr149 := if_p hb148 hr147
      refine gf' hb148 rfl (gf' hb148 rfl (pt hb148 rfl rfl (m1 rfl (gF rfl rfl rfl rfl (gF rfl rfl rfl rfl (gF rfl rfl rfl rfl (gF rfl rfl rfl rfl (pT rfl rfl rfl rfl (on ?_)))))))))
      cases hr149
      exact cu ⟨rfl, rfl, rfl, rfl, tv⟩
     ·have hr150 := if_n hb148 hr147
      refine gt' hb148 rfl (m1 rfl (gt' hb148 rfl (neI rfl rfl rfl (pf hb148 rfl rfl (m1 rfl ?_)))))
      by_cases hb151 : r65.2 ≠ 0
      ·have hr152 := if_p hb151 hr150
       refine gf' hb151 rfl (gf' hb151 rfl (gf' hb151 rfl (gf' hb151 rfl (pt hb151 rfl rfl (on ?_)))))
       cases hr152
       exact cu ⟨rfl, rfl, rfl, rfl, tv⟩
      ·have hr153 := if_n hb151 hr150
       refine gt' hb151 rfl (m1 rfl (gt' hb151 rfl (m1 rfl (gt' hb151 rfl ?_))))
       obtain ⟨r154, hx155, hr156⟩ := bd_some hr153
       refine clS C43 rfl rfl rfl rfl (fun w H hH le => w43 hH (hl71.mono (RSegment.mono) (le.at 10 rfl)) (hl116.mono (RSegment.mono) (le.at 0 rfl)) hx155) (gt' hb151 rfl (nt rfl rfl (pf hb151 rfl rfl (on ?_))))
       cases hr156
       exact cu ⟨rfl, rfl, rfl, rfl, tv⟩
 ·rintro a w ⟨hS, hA⟩
  refine TG.ap ?_ hS hA
  refine cb rfl (fun hc160 => ?_) (fun hc160 => ?_)
  ·have hr161 := if_p hc160 hr138
   refine sq (rg (a1 rfl (on (rt_ ?_))))
   cases hr161
   intro a w hS hA
   refine ret1 hA rfl rfl ?_
   exact ⟨rfl, hS.ext⟩
  ·have hr162 := if_f hc160 hr138
   refine sk (sq (rg (bS (cs := [.string (bs [111, 110, 99, 101])]) T4.E24 rfl rfl rfl rfl fun q163 K164 hq165 hK166 => ?_)))
   have hl167 : Sl (Flat encS) 1 K164 (some q163) 1 ([[111, 110, 99, 101]] : List Bytes) := Sl.litR (css := [[.string (bs [111, 110, 99, 101])]]) (l := ([[111, 110, 99, 101]] : List Bytes)) ⟨⟨rfl, rfl, rfl⟩, tv⟩ hq165 hK166 rfl
   have := hl167.len
   refine bu (cs := [.int .i64 1, .int .i64 100, .int .i64 1, .int .i64 0, .slice (some q163) 1 1]) T4.B63 rfl rfl rfl (bS (cs := [.string (bs [116, 119, 105, 99, 101])]) T4.E24 rfl rfl rfl rfl fun q168 K169 hq170 hK171 => ?_)
   have hl172 : Sl (Flat encS) 1 K169 (some q168) 1 ([[116, 119, 105, 99, 101]] : List Bytes) := Sl.litR (css := [[.string (bs [116, 119, 105, 99, 101])]]) (l := ([[116, 119, 105, 99, 101]] : List Bytes)) ⟨⟨rfl, rfl, rfl⟩, tv⟩ hq170 hK171 rfl
   have := hl172.len
   refine bu (cs := [.int .i64 1, .int .i64 101, .int .i64 1, .int .i64 0, .slice (some q168) 1 1]) T4.B63 rfl rfl rfl (bS (cs := [.string (bs [112, 97, 121, 115])]) T4.E24 rfl rfl rfl rfl fun q173 K174 hq175 hK176 => ?_)
   have hl177 : Sl (Flat encS) 1 K174 (some q173) 1 ([[112, 97, 121, 115]] : List Bytes) := Sl.litR (css := [[.string (bs [112, 97, 121, 115])]]) (l := ([[112, 97, 121, 115]] : List Bytes)) ⟨⟨rfl, rfl, rfl⟩, tv⟩ hq175 hK176 rfl
   have := hl177.len
   refine bu (cs := [.int .i64 1, .int .i64 102, .int .i64 1, .int .i64 1, .slice (some q173) 1 1]) T4.B63 rfl rfl rfl (bu (cs := [.int .i64 1, .int .i64 99, .int .i64 1, .int .i64 1, .slice none 0 0]) T4.B63 rfl rfl rfl (bS (cs := [.string (bs [83, 109, 121, 116, 104]), .string (bs [112, 97, 105, 100])]) T4.E24 rfl rfl rfl rfl fun q178 K179 hq180 hK181 => ?_))
   have hl182 : Sl (Flat encS) 1 K179 (some q178) 2 ([[83, 109, 121, 116, 104], [112, 97, 105, 100]] : List Bytes) := Sl.litR (css := [[.string (bs [83, 109, 121, 116, 104])], [.string (bs [112, 97, 105, 100])]]) (l := ([[83, 109, 121, 116, 104], [112, 97, 105, 100]] : List Bytes)) ⟨⟨rfl, rfl, rfl⟩, ⟨rfl, rfl, rfl⟩, tv⟩ hq180 hK181 rfl
   have := hl182.len
   refine bu (cs := [.int .i64 1, .int .i64 103, .int .i64 0, .int .i64 2, .slice (some q178) 2 2]) T4.B63 rfl rfl rfl (bu (cs := [.int .i64 1, .int .i64 100, .int .i64 3, .int .i64 2, .slice none 0 0]) T4.B63 rfl rfl rfl (bS (cs := [.string (bs [97])]) T4.E24 rfl rfl rfl rfl fun q183 K184 hq185 hK186 => ?_))
   have hl187 : Sl (Flat encS) 1 K184 (some q183) 1 ([[97]] : List Bytes) := Sl.litR (css := [[.string (bs [97])]]) (l := ([[97]] : List Bytes)) ⟨⟨rfl, rfl, rfl⟩, tv⟩ hq185 hK186 rfl
   have := hl187.len
   refine bu (cs := [.int .i64 1, .int .i64 100, .int .i64 4, .int .i64 0, .slice (some q183) 1 1]) T4.B63 rfl rfl rfl (bu (cs := [.int .i64 1, .int .i64 100, .int .i64 1, .int .i64 0, .slice none 0 0]) T4.B63 rfl rfl rfl (bS (cs := [.int .i64 1, .int .i64 100, .int .i64 1, .int .i64 0, .slice (some q163) 1 1, .int .i64 1, .int .i64 101, .int .i64 1, .int .i64 0, .slice (some q168) 1 1, .int .i64 1, .int .i64 102, .int .i64 1, .int .i64 1, .slice (some q173) 1 1, .int .i64 1, .int .i64 99, .int .i64 1, .int .i64 1, .slice none 0 0, .int .i64 1, .int .i64 103, .int .i64 0, .int .i64 2, .slice (some q178) 2 2, .int .i64 1, .int .i64 100, .int .i64 3, .int .i64 2, .slice none 0 0, .int .i64 1, .int .i64 100, .int .i64 4, .int .i64 0, .slice (some q183) 1 1, .int .i64 1, .int .i64 100, .int .i64 1, .int .i64 0, .slice none 0 0]) T4.E64 rfl rfl rfl rfl fun q188 K189 hq190 hK191 => ?_))
   refine TG.pack (fun K => Sl (RRequest) 5 K (some q188) 8 ([(⟨1, 100, 1, 0, ([[111, 110, 99, 101]] : List Bytes)⟩ : Request), (⟨1, 101, 1, 0, ([[116, 119, 105, 99, 101]] : List Bytes)⟩ : Request), (⟨1, 102, 1, 1, ([[112, 97, 121, 115]] : List Bytes)⟩ : Request), (⟨1, 99, 1, 1, ([] : List Bytes)⟩ : Request), (⟨1, 103, 0, 2, ([[83, 109, 121, 116, 104], [112, 97, 105, 100]] : List Bytes)⟩ : Request), (⟨1, 100, 3, 2, ([] : List Bytes)⟩ : Request), (⟨1, 100, 4, 0, ([[97]] : List Bytes)⟩ : Request), (⟨1, 100, 1, 0, ([] : List Bytes)⟩ : Request)] : List Request)) (fun H le => Sl.litR (css := [[.int .i64 1, .int .i64 100, .int .i64 1, .int .i64 0, .slice (some q163) 1 1], [.int .i64 1, .int .i64 101, .int .i64 1, .int .i64 0, .slice (some q168) 1 1], [.int .i64 1, .int .i64 102, .int .i64 1, .int .i64 1, .slice (some q173) 1 1], [.int .i64 1, .int .i64 99, .int .i64 1, .int .i64 1, .slice none 0 0], [.int .i64 1, .int .i64 103, .int .i64 0, .int .i64 2, .slice (some q178) 2 2], [.int .i64 1, .int .i64 100, .int .i64 3, .int .i64 2, .slice none 0 0], [.int .i64 1, .int .i64 100, .int .i64 4, .int .i64 0, .slice (some q183) 1 1], [.int .i64 1, .int .i64 100, .int .i64 1, .int .i64 0, .slice none 0 0]]) (l := ([(⟨1, 100, 1, 0, ([[111, 110, 99, 101]] : List Bytes)⟩ : Request), (⟨1, 101, 1, 0, ([[116, 119, 105, 99, 101]] : List Bytes)⟩ : Request), (⟨1, 102, 1, 1, ([[112, 97, 121, 115]] : List Bytes)⟩ : Request), (⟨1, 99, 1, 1, ([] : List Bytes)⟩ : Request), (⟨1, 103, 0, 2, ([[83, 109, 121, 116, 104], [112, 97, 105, 100]] : List Bytes)⟩ : Request), (⟨1, 100, 3, 2, ([] : List Bytes)⟩ : Request), (⟨1, 100, 4, 0, ([[97]] : List Bytes)⟩ : Request), (⟨1, 100, 1, 0, ([] : List Bytes)⟩ : Request)] : List Request)) ⟨⟨rfl, rfl, ⟨_, _, rfl, (hl167.mono (Flat.mono _) (le.at 5 rfl))⟩⟩, ⟨rfl, rfl, ⟨_, _, rfl, (hl172.mono (Flat.mono _) (le.at 4 rfl))⟩⟩, ⟨rfl, rfl, ⟨_, _, rfl, (hl177.mono (Flat.mono _) (le.at 3 rfl))⟩⟩, ⟨rfl, rfl, ⟨_, _, rfl, (Sl.nil _ _ _ _ _ (by decide))⟩⟩, ⟨rfl, rfl, ⟨_, _, rfl, (hl182.mono (Flat.mono _) (le.at 2 rfl))⟩⟩, ⟨rfl, rfl, ⟨_, _, rfl, (Sl.nil _ _ _ _ _ (by decide))⟩⟩, ⟨rfl, rfl, ⟨_, _, rfl, (hl187.mono (Flat.mono _) (le.at 1 rfl))⟩⟩, ⟨rfl, rfl, ⟨_, _, rfl, (Sl.nil _ _ _ _ _ (by decide))⟩⟩, tv⟩ hq190 (hK191.mono (le.at 0 rfl)) rfl) fun K193 hl192 => ?_
   have := hl192.len
   refine a1 rfl (on (sq (rg (ldA G36 Z36 rfl rfl (sS 24 rfl hK22) rfl (m1 rfl (ldA G56 Z56 rfl rfl (sS 22 rfl hK38) rfl (m1 rfl ?_)))))))
   obtain ⟨r194, hx195, hr196⟩ := bd_some hr162
   refine clK C29 rfl rfl rfl rfl (fun w H hH le => w29 hH (hg.mono (le.at 26 rfl)) r1.1 (RLexicon.mono _ _ _ _ (le.at 25 rfl) hr10) (hl9.mono (Flat.mono _) (le.at 25 rfl)) r23.1 (RReport.mono _ _ _ _ (le.at 23 rfl) hr32) (hl192.mono (RRequest.mono) (le.at 0 rfl)) hx195) ?_
   rintro v_ K197 ⟨ad198, cap199, rfl, hl200⟩
   have := hl200.len
   refine m1 rfl (ex rfl rfl rfl (ex rfl rfl rfl (a1 rfl (a1 rfl (on (sq ?_))))))
   obtain ⟨hk204, hr205⟩ := chk_some hr196
   obtain ⟨r213, hx214, hr215⟩ := bd_some hr205
   refine drG 7 mixed (by kernel_rfl) rfl (dt rfl (ldA G36 Z36 rfl rfl (sS 26 rfl hK22) rfl fin1) (DF.und (α := Option Addr × Nat) (none, 0) (fun q => .slice q.1 ((List.replicate 81 ([] : Bytes)).length) q.2) (fun (q : Option Addr × Nat) K => Sl (Flat encS) 1 K q.1 q.2 (List.replicate 81 ([] : Bytes))) (fun _ _ _ h x => x.mono (Flat.mono _) h) (by kernel_rfl) rfl (fun a w K hS hA hF => TG.pa hS hA (mkS encS ([] : Bytes) T4.E24 rfl rfl rfl rfl rfl (fun _ => rfl) rfl rfl hk204 fun ad206 cap207 K208 hl209 => finU (f := fun q => .slice q.1 ((List.replicate 81 ([] : Bytes)).length) q.2) (G := (fun (q : Option Addr × Nat) K => Sl (Flat encS) 1 K q.1 q.2 (List.replicate 81 ([] : Bytes)))) (_, _) (fun _ _ _ h x => x.mono (Flat.mono _) h) hl209)) ?_))
   rintro ⟨ad211, cap212⟩
   refine DF.und (α := Option Addr × Nat) (none, 0) (fun q => .tuple [.slice q.1 r213.1.length q.2, .int .i64 r213.2].toArray) (fun (q : Option Addr × Nat) K => Sl (Flat encMark) 2 K q.1 q.2 r213.1) (fun _ _ _ h x => x.mono (Flat.mono _) h) (by kernel_rfl) rfl (fun a w K hS hA hF => TG.pa hS hA (clK C26 rfl rfl rfl rfl (fun w H hH le => w26 hH (hg.mono (le.at 28 rfl)) r1.1 (RLexicon.mono _ _ _ _ (le.at 27 rfl) hr10) ((hF.1 rfl).mono (Flat.mono _) (le.at 0 rfl)) hx214) (by
     rintro v_ K216 ⟨ad217, cap218, rfl, hl219⟩
     exact finU (f := fun q => .tuple [.slice q.1 r213.1.length q.2, .int .i64 r213.2].toArray) (G := (fun (q : Option Addr × Nat) K => Sl (Flat encMark) 2 K q.1 q.2 r213.1)) (ad217, cap218) (fun _ _ _ h x => x.mono (Flat.mono _) h) hl219))) ?_
   rintro ⟨ad221, cap222⟩
   refine DF.und () (fun _ => .tuple [.slice ad221 r213.1.length cap222, .int .i64 r213.2].toArray) (fun _ K => Sl (Flat encMark) 2 K ad221 cap222 r213.1) (fun _ _ _ h x => x.mono (Flat.mono _) h) (by kernel_rfl) rfl (fun a w K hS hA hF => TG.pa hS hA (m1 rfl (finF (f := fun _ => .tuple [.slice ad221 r213.1.length cap222, .int .i64 r213.2].toArray) (G := fun _ K => Sl (Flat encMark) 2 K ad221 cap222 r213.1) () (hF.1 rfl)))) fun _ => (DF.und () (fun _ => .slice ad221 r213.1.length cap222) (fun _ K => Sl (Flat encMark) 2 K ad221 cap222 r213.1) (fun _ _ _ h x => x.mono (Flat.mono _) h) (by kernel_rfl) rfl (fun a w K hS hA hF => TG.pa hS hA (ex rfl rfl rfl (finF (f := fun _ => .slice ad221 r213.1.length cap222) (G := fun _ K => Sl (Flat encMark) 2 K ad221 cap222 r213.1) () (hF.1 rfl)))) fun _ => (dt rfl (ex rfl rfl rfl fin1) (DF.und () (fun _ => .slice ad221 r213.1.length cap222) (fun _ K => Sl (Flat encMark) 2 K ad221 cap222 r213.1) (fun _ _ _ h x => x.mono (Flat.mono _) h) (by kernel_rfl) rfl (fun a w K hS hA hF => TG.pa hS hA (a1 rfl (finF (f := fun _ => .slice ad221 r213.1.length cap222) (G := fun _ K => Sl (Flat encMark) 2 K ad221 cap222 r213.1) () (hF.1 rfl)))) fun _ => (DF.nil fun K226 hF => ?_))))
   obtain ⟨hu225, hu224, hu223, hu220, hu210, _⟩ := hF
   have := hu210.len
   have := hu220.len
   refine a1 rfl (on (sq (rg (ldA G36 Z36 rfl rfl (sS 26 rfl hK22) rfl (bS (cs := [.string (bs [])]) T4.E24 rfl rfl rfl rfl fun q227 K228 hq229 hK230 => ?_)))))
   have hl231 : Sl (Flat encS) 1 K228 (some q227) 1 ([[]] : List Bytes) := Sl.litR (css := [[.string (bs [])]]) (l := ([[]] : List Bytes)) ⟨⟨rfl, rfl, rfl⟩, tv⟩ hq229 hK230 rfl
   have := hl231.len
   obtain ⟨r232, hx233, hr234⟩ := bd_some hr215
   refine clK C26 rfl rfl rfl rfl (fun w H hH le => w26 hH (hg.mono (le.at 29 rfl)) r1.1 (RLexicon.mono _ _ _ _ (le.at 28 rfl) hr10) (hl231.mono (Flat.mono _) (le.at 0 rfl)) hx233) ?_
   rintro v_ K235 ⟨ad236, cap237, rfl, hl238⟩
   have := hl238.len
   refine m1 rfl (ex rfl rfl rfl (ex rfl rfl rfl (a1 rfl (a1 rfl (on (sq (rg (ldA G36 Z36 rfl rfl (sS 28 rfl hK22) rfl (bu (cs := [.int .u8 3, .int .i64 0, .int .i64 0]) T4.B109 rfl rfl rfl (bS (cs := [.int .u8 3, .int .i64 0, .int .i64 0]) T4.E38 rfl rfl rfl rfl fun q239 K240 hq241 hK242 => ?_))))))))))
   have hl243 : Sl (Flat encSwap) 3 K240 (some q239) 1 ([(⟨3, 0, 0⟩ : Swap)] : List Swap) := Sl.litR (css := [[.int .u8 3, .int .i64 0, .int .i64 0]]) (l := ([(⟨3, 0, 0⟩ : Swap)] : List Swap)) ⟨⟨rfl, rfl, rfl⟩, tv⟩ hq241 hK242 rfl
   have := hl243.len
   obtain ⟨r244, hx245, hr246⟩ := bd_some hr234
   refine clS C18 rfl rfl rfl rfl (fun w H hH le => w18 hH (hg.mono (le.at 31 rfl)) r1.1 (RLexicon.mono _ _ _ _ (le.at 30 rfl) hr10) (hl243.mono (Flat.mono _) (le.at 0 rfl)) (old_2 := []) (Sl.nil _ _ _ _ _ (by decide)) (new_3 := []) (Sl.nil _ _ _ _ _ (by decide)) hx245) (m1 rfl (ex rfl rfl rfl (ex rfl rfl rfl (a1 rfl (a1 rfl (on (sq ?_)))))))
   obtain ⟨hk250, hr251⟩ := chk_some hr246
   obtain ⟨r259, hx260, hr261⟩ := bd_some hr251
   refine drG 8 mixed (by kernel_rfl) rfl (dt rfl (ldA G36 Z36 rfl rfl (sS 30 rfl hK22) rfl fin1) (DF.und (α := Option Addr × Nat) (none, 0) (fun q => .slice q.1 ((List.replicate 21 (⟨0, 0, 0⟩ : Swap)).length) q.2) (fun (q : Option Addr × Nat) K => Sl (Flat encSwap) 3 K q.1 q.2 (List.replicate 21 (⟨0, 0, 0⟩ : Swap))) (fun _ _ _ h x => x.mono (Flat.mono _) h) (by kernel_rfl) rfl (fun a w K hS hA hF => TG.pa hS hA (mkS encSwap (⟨0, 0, 0⟩ : Swap) T4.E38 rfl rfl rfl rfl rfl (fun _ => rfl) rfl rfl hk250 fun ad252 cap253 K254 hl255 => finU (f := fun q => .slice q.1 ((List.replicate 21 (⟨0, 0, 0⟩ : Swap)).length) q.2) (G := (fun (q : Option Addr × Nat) K => Sl (Flat encSwap) 3 K q.1 q.2 (List.replicate 21 (⟨0, 0, 0⟩ : Swap)))) (_, _) (fun _ _ _ h x => x.mono (Flat.mono _) h) hl255)) ?_))
   rintro ⟨ad257, cap258⟩
   refine dt rfl (ldA G56 Z56 rfl rfl (sS 28 rfl hK38) rfl fin1) ?_
   refine DF.und (α := Option Addr × Nat) (none, 0) (fun q => .tuple [.slice q.1 r259.1.length q.2, .int .i64 r259.2].toArray) (fun (q : Option Addr × Nat) K => Sl (Flat (encI .i64)) 1 K q.1 q.2 r259.1) (fun _ _ _ h x => x.mono (Flat.mono _) h) (by kernel_rfl) rfl (fun a w K hS hA hF => TG.pa hS hA (clK C29 rfl rfl rfl rfl (fun w H hH le => w29 hH (hg.mono (le.at 32 rfl)) r1.1 (RLexicon.mono _ _ _ _ (le.at 31 rfl) hr10) ((hF.1 rfl).mono (Flat.mono _) (le.at 0 rfl)) r23.1 (RReport.mono _ _ _ _ (le.at 29 rfl) hr32) (requests := []) (Sl.nil _ _ _ _ _ (by decide)) hx260) (by
     rintro v_ K262 ⟨ad263, cap264, rfl, hl265⟩
     exact finU (f := fun q => .tuple [.slice q.1 r259.1.length q.2, .int .i64 r259.2].toArray) (G := (fun (q : Option Addr × Nat) K => Sl (Flat (encI .i64)) 1 K q.1 q.2 r259.1)) (ad263, cap264) (fun _ _ _ h x => x.mono (Flat.mono _) h) hl265))) ?_
   rintro ⟨ad267, cap268⟩
   refine DF.und () (fun _ => .tuple [.slice ad267 r259.1.length cap268, .int .i64 r259.2].toArray) (fun _ K => Sl (Flat (encI .i64)) 1 K ad267 cap268 r259.1) (fun _ _ _ h x => x.mono (Flat.mono _) h) (by kernel_rfl) rfl (fun a w K hS hA hF => TG.pa hS hA (m1 rfl (finF (f := fun _ => .tuple [.slice ad267 r259.1.length cap268, .int .i64 r259.2].toArray) (G := fun _ K => Sl (Flat (encI .i64)) 1 K ad267 cap268 r259.1) () (hF.1 rfl)))) fun _ => (DF.und () (fun _ => .slice ad267 r259.1.length cap268) (fun _ K => Sl (Flat (encI .i64)) 1 K ad267 cap268 r259.1) (fun _ _ _ h x => x.mono (Flat.mono _) h) (by kernel_rfl) rfl (fun a w K hS hA hF => TG.pa hS hA (ex rfl rfl rfl (finF (f := fun _ => .slice ad267 r259.1.length cap268) (G := fun _ K => Sl (Flat (encI .i64)) 1 K ad267 cap268 r259.1) () (hF.1 rfl)))) fun _ => (dt rfl (ex rfl rfl rfl fin1) (DF.und () (fun _ => .slice ad267 r259.1.length cap268) (fun _ K => Sl (Flat (encI .i64)) 1 K ad267 cap268 r259.1) (fun _ _ _ h x => x.mono (Flat.mono _) h) (by kernel_rfl) rfl (fun a w K hS hA hF => TG.pa hS hA (a1 rfl (finF (f := fun _ => .slice ad267 r259.1.length cap268) (G := fun _ K => Sl (Flat (encI .i64)) 1 K ad267 cap268 r259.1) () (hF.1 rfl)))) fun _ => (DF.nil fun K272 hF => ?_))))
   obtain ⟨hu271, hu270, hu269, hu266, hu256, _⟩ := hF
   have := hu256.len
   have := hu266.len
   refine a1 rfl (on (sq ?_))
   obtain ⟨r280, hx281, hr282⟩ := bd_some hr261
   refine drG 8 mixed (by kernel_rfl) rfl (dt rfl (ldA G36 Z36 rfl rfl (sS 31 rfl hK22) rfl fin1) (dt rfl (ldA G56 Z56 rfl rfl (sS 29 rfl hK38) rfl fin1) (DF.und (α := Option Addr × Nat) (none, 0) (fun q => .slice q.1 ((List.replicate 21 (⟨0, 0, 0, 0, ([] : List Bytes)⟩ : Request)).length) q.2) (fun (q : Option Addr × Nat) K => Sl (RRequest) 5 K q.1 q.2 (List.replicate 21 (⟨0, 0, 0, 0, ([] : List Bytes)⟩ : Request))) (fun _ _ _ h x => x.mono (RRequest.mono) h) (by kernel_rfl) rfl (fun a w K hS hA hF => TG.pa hS hA (mkSR (⟨0, 0, 0, 0, ([] : List Bytes)⟩ : Request) 0 rfl (RRequest.mono) T4.E64 rfl rfl rfl (fun _ => ⟨_, _, rfl, (Sl.nil _ _ _ _ _ (by decide))⟩) rfl rfl rfl rfl hk250 fun ad273 cap274 K275 hl276 => finU (f := fun q => .slice q.1 ((List.replicate 21 (⟨0, 0, 0, 0, ([] : List Bytes)⟩ : Request)).length) q.2) (G := (fun (q : Option Addr × Nat) K => Sl (RRequest) 5 K q.1 q.2 (List.replicate 21 (⟨0, 0, 0, 0, ([] : List Bytes)⟩ : Request)))) (_, _) (fun _ _ _ h x => x.mono (RRequest.mono) h) hl276)) ?_)))
   rintro ⟨ad278, cap279⟩
   refine DF.und (α := Option Addr × Nat) (none, 0) (fun q => .tuple [.slice q.1 r280.1.length q.2, .int .i64 r280.2].toArray) (fun (q : Option Addr × Nat) K => Sl (Flat (encI .i64)) 1 K q.1 q.2 r280.1) (fun _ _ _ h x => x.mono (Flat.mono _) h) (by kernel_rfl) rfl (fun a w K hS hA hF => TG.pa hS hA (clK C29 rfl rfl rfl rfl (fun w H hH le => w29 hH (hg.mono (le.at 33 rfl)) r1.1 (RLexicon.mono _ _ _ _ (le.at 32 rfl) hr10) (swaps := []) (Sl.nil _ _ _ _ _ (by decide)) r23.1 (RReport.mono _ _ _ _ (le.at 30 rfl) hr32) ((hF.1 rfl).mono (RRequest.mono) (le.at 0 rfl)) hx281) (by
     rintro v_ K283 ⟨ad284, cap285, rfl, hl286⟩
     exact finU (f := fun q => .tuple [.slice q.1 r280.1.length q.2, .int .i64 r280.2].toArray) (G := (fun (q : Option Addr × Nat) K => Sl (Flat (encI .i64)) 1 K q.1 q.2 r280.1)) (ad284, cap285) (fun _ _ _ h x => x.mono (Flat.mono _) h) hl286))) ?_
   rintro ⟨ad288, cap289⟩
   refine DF.und () (fun _ => .tuple [.slice ad288 r280.1.length cap289, .int .i64 r280.2].toArray) (fun _ K => Sl (Flat (encI .i64)) 1 K ad288 cap289 r280.1) (fun _ _ _ h x => x.mono (Flat.mono _) h) (by kernel_rfl) rfl (fun a w K hS hA hF => TG.pa hS hA (m1 rfl (finF (f := fun _ => .tuple [.slice ad288 r280.1.length cap289, .int .i64 r280.2].toArray) (G := fun _ K => Sl (Flat (encI .i64)) 1 K ad288 cap289 r280.1) () (hF.1 rfl)))) fun _ => (DF.und () (fun _ => .slice ad288 r280.1.length cap289) (fun _ K => Sl (Flat (encI .i64)) 1 K ad288 cap289 r280.1) (fun _ _ _ h x => x.mono (Flat.mono _) h) (by kernel_rfl) rfl (fun a w K hS hA hF => TG.pa hS hA (ex rfl rfl rfl (finF (f := fun _ => .slice ad288 r280.1.length cap289) (G := fun _ K => Sl (Flat (encI .i64)) 1 K ad288 cap289 r280.1) () (hF.1 rfl)))) fun _ => (dt rfl (ex rfl rfl rfl fin1) (DF.und () (fun _ => .slice ad288 r280.1.length cap289) (fun _ K => Sl (Flat (encI .i64)) 1 K ad288 cap289 r280.1) (fun _ _ _ h x => x.mono (Flat.mono _) h) (by kernel_rfl) rfl (fun a w K hS hA hF => TG.pa hS hA (a1 rfl (finF (f := fun _ => .slice ad288 r280.1.length cap289) (G := fun _ K => Sl (Flat (encI .i64)) 1 K ad288 cap289 r280.1) () (hF.1 rfl)))) fun _ => (DF.nil fun K293 hF => ?_))))
   obtain ⟨hu292, hu291, hu290, hu287, hu277, _⟩ := hF
   have := hu277.len
   have := hu287.len
   refine a1 rfl (on (sq (rg (bS (cs := [.string (bs [97])]) T4.E24 rfl rfl rfl rfl fun q294 K295 hq296 hK297 => ?_))))
   have hl298 : Sl (Flat encS) 1 K295 (some q294) 1 ([[97]] : List Bytes) := Sl.litR (css := [[.string (bs [97])]]) (l := ([[97]] : List Bytes)) ⟨⟨rfl, rfl, rfl⟩, tv⟩ hq296 hK297 rfl
   have := hl298.len
   refine bS (cs := [.string (bs [98]), .string (bs [97])]) T4.E24 rfl rfl rfl rfl fun q299 K300 hq301 hK302 => ?_
   have hl303 : Sl (Flat encS) 1 K300 (some q299) 2 ([[98], [97]] : List Bytes) := Sl.litR (css := [[.string (bs [98])], [.string (bs [97])]]) (l := ([[98], [97]] : List Bytes)) ⟨⟨rfl, rfl, rfl⟩, ⟨rfl, rfl, rfl⟩, tv⟩ hq301 hK302 rfl
   have := hl303.len
   refine bS (cs := [.slice (some q294) 1 1, .slice (some q299) 2 2]) T4.E23 rfl rfl rfl rfl fun q304 K305 hq306 hK307 => (TG.pack (fun K => Sl (RSl (Flat encS) 1) 1 K (some q304) 2 ([([[97]] : List Bytes), ([[98], [97]] : List Bytes)] : List (List Bytes))) (fun H le => Sl.litR (css := [[.slice (some q294) 1 1], [.slice (some q299) 2 2]]) (l := ([([[97]] : List Bytes), ([[98], [97]] : List Bytes)] : List (List Bytes))) ⟨⟨rfl, rfl, ⟨_, _, rfl, (hl298.mono (Flat.mono _) (le.at 2 rfl))⟩⟩, ⟨rfl, rfl, ⟨_, _, rfl, (hl303.mono (Flat.mono _) (le.at 1 rfl))⟩⟩, tv⟩ hq306 (hK307.mono (le.at 0 rfl)) rfl) fun K309 hl308 => ?_)
   have := hl308.len
   refine bu (cs := [.slice none 0 0, .slice (some q304) 2 2, .slice none 0 0]) T4.B36 rfl rfl rfl (va (cs := [.slice none 0 0, .slice (some q304) 2 2, .slice none 0 0]) Tryz.zeroValue36 Z36 rfl rfl rfl rfl rfl rfl rfl rfl fun q310 K311 hK312 => (on (sq ?_)))
   obtain ⟨t374, hx375, hr376⟩ := bd_some hr282
   refine jn (fun a w => St M W H [K311, K309, K305, K300, K295, K293, K272, K240, K235, K228, K226, K197, K193, K189, K184, K179, K174, K169, K164, K117, K113, K108, K103, K98, K93, K88, K83, K78, K73, K68, K58, K53, K45, K40, K37, K26, K21, K4, H] [] w ∧ Has [] 199 a [(0, .bool t374)]) ?_ ?_
   ·refine rg (m1 rfl (eqI rfl rfl rfl (m1 rfl ?_)))
    by_cases hb377 : r194.2 = 0
    ·have hr378 := if_p hb377 hx375
     refine gt hb377 rfl (m1 rfl (gt hb377 rfl (bS (cs := [.int .i64 0, .int .i64 6, .int .i64 0, .int .i64 11, .int .i64 6, .int .i64 2, .int .i64 5, .int .i64 1]) T4.E59 rfl rfl rfl rfl fun q379 K380 hq381 hK382 => ?_)))
     have hl383 : Sl (Flat (encI .i64)) 1 K380 (some q379) 8 ([0, 6, 0, 11, 6, 2, 5, 1] : List Int) := Sl.litR (css := [[.int .i64 0], [.int .i64 6], [.int .i64 0], [.int .i64 11], [.int .i64 6], [.int .i64 2], [.int .i64 5], [.int .i64 1]]) (l := ([0, 6, 0, 11, 6, 2, 5, 1] : List Int)) ⟨⟨rfl, rfl, rfl⟩, ⟨rfl, rfl, rfl⟩, ⟨rfl, rfl, rfl⟩, ⟨rfl, rfl, rfl⟩, ⟨rfl, rfl, rfl⟩, ⟨rfl, rfl, rfl⟩, ⟨rfl, rfl, rfl⟩, ⟨rfl, rfl, rfl⟩, tv⟩ hq381 hK382 rfl
     have := hl383.len
     refine gt hb377 rfl ?_
     obtain ⟨r384, hx385, hr386⟩ := bd_some hr378
     refine clS C50 rfl rfl rfl rfl (fun w H hH le => w50 hH (hl200.mono (Flat.mono _) (le.at 12 rfl)) (hl383.mono (Flat.mono _) (le.at 0 rfl)) hx385) (pt hb377 rfl rfl (m1 rfl ?_))
     rcases Bool.eq_false_or_eq_true (r384) with hb387 | hb387
     ·have hr388 := if_p hb387 hr386
      refine gN rfl rfl (hb387) (m1 rfl (gN rfl rfl (hb387) (eqI rfl rfl rfl (pT rfl rfl (hb387) rfl (m1 rfl ?_)))))
      by_cases hb389 : r213.2 = 3
      ·have hr390 := if_p hb389 hr388
       refine gt hb389 rfl (m1 rfl (gt hb389 rfl (eqI rfl rfl rfl (pt hb389 rfl rfl (m1 rfl ?_)))))
       by_cases hb391 : r232.2 = 1
       ·have hr392 := if_p hb391 hr390
        refine gt hb391 rfl (m1 rfl (gt hb391 rfl (eqI rfl rfl rfl (pt hb391 rfl rfl (m1 rfl ?_)))))
        by_cases hb393 : r244.2 = 1
        ·have hr394 := if_p hb393 hr392
         refine gt hb393 rfl (m1 rfl (gt hb393 rfl (eqI rfl rfl rfl (pt hb393 rfl rfl (m1 rfl ?_)))))
         by_cases hb395 : r259.2 = 3
         ·have hr396 := if_p hb395 hr394
          refine gt hb395 rfl (m1 rfl (gt hb395 rfl (eqI rfl rfl rfl (pt hb395 rfl rfl (m1 rfl ?_)))))
          by_cases hb397 : r280.2 = 3
          ·have hr398 := if_p hb397 hr396
           refine gt hb397 rfl (ldA G36 Z36 rfl rfl (sS 1 rfl hK312) rfl (gt hb397 rfl ?_))
           obtain ⟨r399, hx400, hr401⟩ := bd_some hr398
           refine clS C40 rfl rfl rfl rfl (fun w H hH le => w40 hH (⟨([] : List Number), ([([[97]] : List Bytes), ([[98], [97]] : List Bytes)] : List (List Bytes)), ([] : List Bytes)⟩ : Lexicon) ⟨_, _, _, _, _, _, rfl, (Sl.nil _ _ _ _ _ (by decide)), (hl308.mono (RSl.mono (Flat.mono _)) (le.at 2 rfl)), (Sl.nil _ _ _ _ _ (by decide))⟩ hx400) (gt hb397 rfl (eqI rfl rfl rfl (pt hb397 rfl rfl (m1 rfl ?_))))
           by_cases hb402 : r399 = 6
           ·have hr403 := if_p hb402 hr401
            refine gt hb402 rfl (bS (cs := []) T4.E24 rfl rfl rfl rfl fun q404 K405 hq406 hK407 => ?_)
            have hl408 : Sl (Flat encS) 1 K405 (some q404) 0 ([] : List Bytes) := Sl.litR (css := []) (l := ([] : List Bytes)) tv hq406 hK407 rfl
            have := hl408.len
            refine gt hb402 rfl (bS (cs := [.slice (some q404) 0 0]) T4.E23 rfl rfl rfl rfl fun q409 K410 hq411 hK412 => (TG.pack (fun K => Sl (RSl (Flat encS) 1) 1 K (some q409) 1 ([([] : List Bytes)] : List (List Bytes))) (fun H le => Sl.litR (css := [[.slice (some q404) 0 0]]) (l := ([([] : List Bytes)] : List (List Bytes))) ⟨⟨rfl, rfl, ⟨_, _, rfl, (hl408.mono (Flat.mono _) (le.at 1 rfl))⟩⟩, tv⟩ hq411 (hK412.mono (le.at 0 rfl)) rfl) fun K414 hl413 => ?_))
            have := hl413.len
            refine gt hb402 rfl (bu (cs := [.slice none 0 0, .slice (some q409) 1 1, .slice none 0 0]) T4.B36 rfl rfl rfl (gt hb402 rfl ?_))
            obtain ⟨r415, hx416, hr417⟩ := bd_some hr403
            refine clS C40 rfl rfl rfl rfl (fun w H hH le => w40 hH (⟨([] : List Number), ([([] : List Bytes)] : List (List Bytes)), ([] : List Bytes)⟩ : Lexicon) ⟨_, _, _, _, _, _, rfl, (Sl.nil _ _ _ _ _ (by decide)), (hl413.mono (RSl.mono (Flat.mono _)) (le.at 0 rfl)), (Sl.nil _ _ _ _ _ (by decide))⟩ hx416) (gt hb402 rfl (eqI rfl rfl rfl (pt hb402 rfl rfl (m1 rfl ?_))))
            by_cases hb418 : r415 = 1
            ·have hr419 := if_p hb418 hr417
             refine gt hb418 rfl (bu (cs := [.slice none 0 0, .int .i64 (-1), .int .i64 0]) T4.B56 rfl rfl rfl (gt hb418 rfl ?_))
             obtain ⟨r420, hx421, hr422⟩ := bd_some hr419
             refine clS C36 rfl rfl rfl rfl (fun w H hH le => w36 hH (⟨([] : List Said), (-1), 0⟩ : Report) ⟨_, _, rfl, (Sl.nil _ _ _ _ _ (by decide))⟩ hx421) (gt hb418 rfl (eqI rfl rfl rfl (pt hb418 rfl rfl (m1 rfl ?_))))
             by_cases hb423 : r420 = 1
             ·have hr424 := if_p hb423 hr422
              refine gt hb423 rfl ?_
              obtain ⟨r425, hx426, hr427⟩ := bd_some hr424
              refine clS C17 rfl rfl rfl rfl (fun w H hH le => w17 hH (hg.mono (le.at 42 rfl))  hx426) (pt hb423 rfl rfl (a1 rfl (on ?_)))
              cases hr427
              intro a w hS hA
              exact ⟨hS.selH [4, 5, 6, 7, 8, 9, 10, 11, 12, 13, 14, 15, 16, 17, 18, 19, 20, 21, 22, 23, 24, 25, 26, 27, 28, 29, 30, 31, 32, 33, 34, 35, 36, 37, 38, 39, 40, 41, 42] rfl, hA.cut ⟨rfl, tv⟩⟩
             ·have hr428 := if_n hb423 hr422
              refine gf hb423 rfl (pf hb423 rfl rfl (a1 rfl (on ?_)))
              cases hr428
              intro a w hS hA
              exact ⟨hS.selH [4, 5, 6, 7, 8, 9, 10, 11, 12, 13, 14, 15, 16, 17, 18, 19, 20, 21, 22, 23, 24, 25, 26, 27, 28, 29, 30, 31, 32, 33, 34, 35, 36, 37, 38, 39, 40, 41, 42] rfl, hA.cut ⟨rfl, tv⟩⟩
            ·have hr429 := if_n hb418 hr417
             refine gf hb418 rfl (gf hb418 rfl (gf hb418 rfl (pf hb418 rfl rfl (m1 rfl (gF rfl rfl rfl rfl (pF rfl rfl rfl rfl (a1 rfl (on ?_))))))))
             cases hr429
             intro a w hS hA
             exact ⟨hS.selH [4, 5, 6, 7, 8, 9, 10, 11, 12, 13, 14, 15, 16, 17, 18, 19, 20, 21, 22, 23, 24, 25, 26, 27, 28, 29, 30, 31, 32, 33, 34, 35, 36, 37, 38, 39, 40, 41, 42] rfl, hA.cut ⟨rfl, tv⟩⟩
           ·have hr430 := if_n hb402 hr401
            refine gf hb402 rfl (gf hb402 rfl (gf hb402 rfl (gf hb402 rfl (gf hb402 rfl (pf hb402 rfl rfl (m1 rfl (gF rfl rfl rfl rfl (gF rfl rfl rfl rfl (gF rfl rfl rfl rfl (pF rfl rfl rfl rfl (m1 rfl ?_)))))))))))
            refine gF rfl rfl rfl rfl (pF rfl rfl rfl rfl (a1 rfl (on ?_)))
            cases hr430
            intro a w hS hA
            exact ⟨hS.selH [1, 2, 3, 4, 5, 6, 7, 8, 9, 10, 11, 12, 13, 14, 15, 16, 17, 18, 19, 20, 21, 22, 23, 24, 25, 26, 27, 28, 29, 30, 31, 32, 33, 34, 35, 36, 37, 38, 39] rfl, hA.cut ⟨rfl, tv⟩⟩
          ·have hr431 := if_n hb397 hr396
           refine gf hb397 rfl (gf hb397 rfl (gf hb397 rfl (pf hb397 rfl rfl (m1 rfl (gF rfl rfl rfl rfl (gF rfl rfl rfl rfl (gF rfl rfl rfl rfl (gF rfl rfl rfl rfl (gF rfl rfl rfl rfl (pF rfl rfl rfl rfl (m1 rfl ?_)))))))))))
           refine gF rfl rfl rfl rfl (gF rfl rfl rfl rfl (gF rfl rfl rfl rfl (pF rfl rfl rfl rfl (m1 rfl (gF rfl rfl rfl rfl (pF rfl rfl rfl rfl (a1 rfl (on ?_))))))))
           cases hr431
           intro a w hS hA
           exact ⟨hS.selH [1, 2, 3, 4, 5, 6, 7, 8, 9, 10, 11, 12, 13, 14, 15, 16, 17, 18, 19, 20, 21, 22, 23, 24, 25, 26, 27, 28, 29, 30, 31, 32, 33, 34, 35, 36, 37, 38, 39] rfl, hA.cut ⟨rfl, tv⟩⟩
         ·have hr432 := if_n hb395 hr394
          refine gf hb395 rfl (gf hb395 rfl (pf hb395 rfl rfl (m1 rfl (gF rfl rfl rfl rfl (gF rfl rfl rfl rfl (gF rfl rfl rfl rfl (pF rfl rfl rfl rfl (m1 rfl (gF rfl rfl rfl rfl (gF rfl rfl rfl rfl (gF rfl rfl rfl rfl ?_)))))))))))
          refine gF rfl rfl rfl rfl (gF rfl rfl rfl rfl (pF rfl rfl rfl rfl (m1 rfl (gF rfl rfl rfl rfl (gF rfl rfl rfl rfl (gF rfl rfl rfl rfl (pF rfl rfl rfl rfl (m1 rfl (gF rfl rfl rfl rfl (pF rfl rfl rfl rfl (a1 rfl ?_)))))))))))
          refine on ?_
          cases hr432
          intro a w hS hA
          exact ⟨hS.selH [1, 2, 3, 4, 5, 6, 7, 8, 9, 10, 11, 12, 13, 14, 15, 16, 17, 18, 19, 20, 21, 22, 23, 24, 25, 26, 27, 28, 29, 30, 31, 32, 33, 34, 35, 36, 37, 38, 39] rfl, hA.cut ⟨rfl, tv⟩⟩
        ·have hr433 := if_n hb393 hr392
         refine gf hb393 rfl (gf hb393 rfl (pf hb393 rfl rfl (m1 rfl (gF rfl rfl rfl rfl (gF rfl rfl rfl rfl (pF rfl rfl rfl rfl (m1 rfl (gF rfl rfl rfl rfl (gF rfl rfl rfl rfl (gF rfl rfl rfl rfl (pF rfl rfl rfl rfl ?_)))))))))))
         refine m1 rfl (gF rfl rfl rfl rfl (gF rfl rfl rfl rfl (gF rfl rfl rfl rfl (gF rfl rfl rfl rfl (gF rfl rfl rfl rfl (pF rfl rfl rfl rfl (m1 rfl (gF rfl rfl rfl rfl (gF rfl rfl rfl rfl (gF rfl rfl rfl rfl (pF rfl rfl rfl rfl ?_)))))))))))
         refine m1 rfl (gF rfl rfl rfl rfl (pF rfl rfl rfl rfl (a1 rfl (on ?_))))
         cases hr433
         intro a w hS hA
         exact ⟨hS.selH [1, 2, 3, 4, 5, 6, 7, 8, 9, 10, 11, 12, 13, 14, 15, 16, 17, 18, 19, 20, 21, 22, 23, 24, 25, 26, 27, 28, 29, 30, 31, 32, 33, 34, 35, 36, 37, 38, 39] rfl, hA.cut ⟨rfl, tv⟩⟩
       ·have hr434 := if_n hb391 hr390
        refine gf hb391 rfl (gf hb391 rfl (pf hb391 rfl rfl (m1 rfl (gF rfl rfl rfl rfl (gF rfl rfl rfl rfl (pF rfl rfl rfl rfl (m1 rfl (gF rfl rfl rfl rfl (gF rfl rfl rfl rfl (pF rfl rfl rfl rfl (m1 rfl ?_)))))))))))
        refine gF rfl rfl rfl rfl (gF rfl rfl rfl rfl (gF rfl rfl rfl rfl (pF rfl rfl rfl rfl (m1 rfl (gF rfl rfl rfl rfl (gF rfl rfl rfl rfl (gF rfl rfl rfl rfl (gF rfl rfl rfl rfl (gF rfl rfl rfl rfl (pF rfl rfl rfl rfl (m1 rfl ?_)))))))))))
        refine gF rfl rfl rfl rfl (gF rfl rfl rfl rfl (gF rfl rfl rfl rfl (pF rfl rfl rfl rfl (m1 rfl (gF rfl rfl rfl rfl (pF rfl rfl rfl rfl (a1 rfl (on ?_))))))))
        cases hr434
        intro a w hS hA
        exact ⟨hS.selH [1, 2, 3, 4, 5, 6, 7, 8, 9, 10, 11, 12, 13, 14, 15, 16, 17, 18, 19, 20, 21, 22, 23, 24, 25, 26, 27, 28, 29, 30, 31, 32, 33, 34, 35, 36, 37, 38, 39] rfl, hA.cut ⟨rfl, tv⟩⟩
      ·have hr435 := if_n hb389 hr388
       refine gf hb389 rfl (gf hb389 rfl (pf hb389 rfl rfl (m1 rfl (gF rfl rfl rfl rfl (gF rfl rfl rfl rfl (pF rfl rfl rfl rfl (m1 rfl (gF rfl rfl rfl rfl (gF rfl rfl rfl rfl (pF rfl rfl rfl rfl (m1 rfl ?_)))))))))))
       refine gF rfl rfl rfl rfl (gF rfl rfl rfl rfl (pF rfl rfl rfl rfl (m1 rfl (gF rfl rfl rfl rfl (gF rfl rfl rfl rfl (gF rfl rfl rfl rfl (pF rfl rfl rfl rfl (m1 rfl (gF rfl rfl rfl rfl (gF rfl rfl rfl rfl (gF rfl rfl rfl rfl ?_)))))))))))
       refine gF rfl rfl rfl rfl (gF rfl rfl rfl rfl (pF rfl rfl rfl rfl (m1 rfl (gF rfl rfl rfl rfl (gF rfl rfl rfl rfl (gF rfl rfl rfl rfl (pF rfl rfl rfl rfl (m1 rfl (gF rfl rfl rfl rfl (pF rfl rfl rfl rfl (a1 rfl ?_)))))))))))
       refine on ?_
       cases hr435
       intro a w hS hA
       exact ⟨hS.selH [1, 2, 3, 4, 5, 6, 7, 8, 9, 10, 11, 12, 13, 14, 15, 16, 17, 18, 19, 20, 21, 22, 23, 24, 25, 26, 27, 28, 29, 30, 31, 32, 33, 34, 35, 36, 37, 38, 39] rfl, hA.cut ⟨rfl, tv⟩⟩
     ·have hr436 := if_f hb387 hr386
      refine gF rfl rfl (hb387) rfl (gF rfl rfl (hb387) rfl (pF rfl rfl (hb387) rfl (m1 rfl (gF rfl rfl rfl rfl (gF rfl rfl rfl rfl (pF rfl rfl rfl rfl (m1 rfl (gF rfl rfl rfl rfl (gF rfl rfl rfl rfl (pF rfl rfl rfl rfl (m1 rfl ?_)))))))))))
      refine gF rfl rfl rfl rfl (gF rfl rfl rfl rfl (pF rfl rfl rfl rfl (m1 rfl (gF rfl rfl rfl rfl (gF rfl rfl rfl rfl (pF rfl rfl rfl rfl (m1 rfl (gF rfl rfl rfl rfl (gF rfl rfl rfl rfl (gF rfl rfl rfl rfl (pF rfl rfl rfl rfl ?_)))))))))))
      refine m1 rfl (gF rfl rfl rfl rfl (gF rfl rfl rfl rfl (gF rfl rfl rfl rfl (gF rfl rfl rfl rfl (gF rfl rfl rfl rfl (pF rfl rfl rfl rfl (m1 rfl (gF rfl rfl rfl rfl (gF rfl rfl rfl rfl (gF rfl rfl rfl rfl (pF rfl rfl rfl rfl ?_)))))))))))
      refine m1 rfl (gF rfl rfl rfl rfl (pF rfl rfl rfl rfl (a1 rfl (on ?_))))
      cases hr436
      intro a w hS hA
      exact ⟨hS.selH [1, 2, 3, 4, 5, 6, 7, 8, 9, 10, 11, 12, 13, 14, 15, 16, 17, 18, 19, 20, 21, 22, 23, 24, 25, 26, 27, 28, 29, 30, 31, 32, 33, 34, 35, 36, 37, 38, 39] rfl, hA.cut ⟨rfl, tv⟩⟩
    ·have hr437 := if_n hb377 hx375
     refine gf hb377 rfl (gf hb377 rfl (gf hb377 rfl (pf hb377 rfl rfl (m1 rfl (gF rfl rfl rfl rfl (gF rfl rfl rfl rfl (pF rfl rfl rfl rfl (m1 rfl (gF rfl rfl rfl rfl (gF rfl rfl rfl rfl (pF rfl rfl rfl rfl ?_)))))))))))
     refine m1 rfl (gF rfl rfl rfl rfl (gF rfl rfl rfl rfl (pF rfl rfl rfl rfl (m1 rfl (gF rfl rfl rfl rfl (gF rfl rfl rfl rfl (pF rfl rfl rfl rfl (m1 rfl (gF rfl rfl rfl rfl (gF rfl rfl rfl rfl (pF rfl rfl rfl rfl ?_)))))))))))
     refine m1 rfl (gF rfl rfl rfl rfl (gF rfl rfl rfl rfl (gF rfl rfl rfl rfl (pF rfl rfl rfl rfl (m1 rfl (gF rfl rfl rfl rfl (gF rfl rfl rfl rfl (gF rfl rfl rfl rfl (gF rfl rfl rfl rfl (gF rfl rfl rfl rfl (pF rfl rfl rfl rfl ?_)))))))))))
     refine m1 rfl (gF rfl rfl rfl rfl (gF rfl rfl rfl rfl (gF rfl rfl rfl rfl (pF rfl rfl rfl rfl (m1 rfl (gF rfl rfl rfl rfl (pF rfl rfl rfl rfl (a1 rfl (on ?_)))))))))
     cases hr437
     exact cu ⟨rfl, tv⟩
   ·rintro a w ⟨hS, hA⟩
    refine TG.ap ?_ hS hA
    refine rt_ ?_
    cases hr376
    intro a w hS hA
    refine ret1 hA rfl rfl ?_
    exact ⟨rfl, hS.ext⟩

end T4
