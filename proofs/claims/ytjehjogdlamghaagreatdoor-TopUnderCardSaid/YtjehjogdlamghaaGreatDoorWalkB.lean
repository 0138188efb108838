/-
 Walks of functions of a volume and an index: each call comes to what the model says. Printed by a program of ours.
-/
import Derived.Test.YtjehjogdlamghaaGreatDoorWalkA
set_option linter.all false
set_option maxHeartbeats 4000000
namespace T10
open Go Go.Proofs Pk
theorem w80 {M : Prop} {W : World} {H : Hp} (hH : H.le (hp W)) {cs_v_0 : List Value} (v_0 : Volume) (h_v_0 : (RVolume) H cs_v_0 v_0) {r : Bool} (hr : m80 v_0 = some r) : Calls Tryz.prog 80 [.agg cs_v_0.toArray].toArray W (RetS M W (.bool r)) := by
 have hh_v_0 := h_v_0
 obtain ⟨ad1, cap2, rfl, hl3⟩ := h_v_0
 have := hl3.len
 unfold m80 at hr
 refine enterG (M := M) Tryz.func80 rfl Tryz.ntmps80 rfl hH ?_
 refine sq (rg (bI (cs := [.int .i64 v_0.number, .int .i64 v_0.bound, .int .i64 v_0.height, .int .i64 v_0.width, .slice ad1 v_0.parts.length cap2]) rfl rfl rfl fun q4 K5 hK6 => (a1 rfl (on (sq (sq (rg (fb 4 U42 rfl rfl rfl rfl Z40 (ld G40 rfl rfl ((sS 0 rfl hK6).drop 4) rfl (lnL U40 rfl rfl (m1 rfl ?_)))))))))))
 refine on ?_
 obtain ⟨e55, hl56, hr57⟩ := bd_some hr
 refine jn (fun a w => ∃ t58, e55 = .inl t58 ∧ St M W H [K5, H] [] w ∧ Has [] 64 a [(1, .pointer (some q4))]) ?_ ?_
 ·refine bk ?_
  refine lp hl56 (fun s59 a w => St M W H [K5, H] [] w ∧ Has [] 64 a [(1, .pointer (some q4)), (6, .slice ad1 v_0.parts.length cap2), (7, .int .i64 (v_0.parts.length : Int)), (8, .int .i64 (s59 : Int))]) ?_ ?_
  ·exact cu ⟨rfl, rfl, rfl, rfl, tv⟩
  ·rintro j s59 y62 hr60 hz61 a w ⟨hS, hA⟩
   refine TG.ap ?_ hS hA
   unfold m80_1 at hr60
   refine sq (rg (ltI rfl rfl rfl (on (sq ?_))))
   refine ci rfl (fun hc66 => ?_) (fun hc66 => ?_)
   ·have hr67 := if_p hc66 hr60
    refine sk (sq (bk (sq (rg (m1 rfl ?_)))))
    obtain ⟨x112, hx113, hr114⟩ := bd_some hr67
    obtain ⟨p115, rfl⟩ := hl3.adr hx113
    obtain ⟨cs116, hcs117, hq118, hr119⟩ := hl3.at hx113
    have hr120 := hr119
    obtain ⟨ad121, cap122, rfl, hl123⟩ := hr119
    have := hl123.len
    refine iaP U40 Z105 rfl rfl rfl rfl (lt_of hx113) (ldA G105 Z105 rfl rfl (sS 1 rfl hq118) rfl (al 1 (cs := [.int .i64 0, .slice none 0 0]) Tryz.zeroValue105 rfl rfl fun b124 => (a1 rfl (sto 1 (cs := [.int .i64 x112.day, .slice ad121 x112.paragraphs.length cap122]) Z105 rfl rfl rfl rfl rfl rfl rfl (on (sq ?_))))))
    obtain ⟨t152, hx153, hr154⟩ := bd_some hr114
    refine jn (fun a w => St M W H [K5, H] [(1, cel b124 105 [.int .i64 x112.day, .slice ad121 x112.paragraphs.length cap122])] w ∧ Has [] 64 a [(1, .pointer (some q4)), (6, .slice (some p115) v_0.parts.length cap2), (7, .int .i64 (v_0.parts.length : Int)), (8, .int .i64 (s59 : Int)), (39, .bool t152)]) ?_ ?_
    ·obtain ⟨r155, hx156, hr157⟩ := bd_some hx153
     rcases Bool.eq_false_or_eq_true (r155) with hb158 | hb158
     ·have hr159 := if_p hb158 hr157
      by_cases hb160 : v_0.bound < x112.day
      ·have hr161 := if_p hb160 hr159
       refine drG 24 mixed (by kernel_rfl) rfl (dt rfl (fb 0 U105 rfl rfl rfl rfl Z3 fin1) (dt rfl (ld G3 rfl rfl ((sO 1 rfl).take 1) rfl fin1) (dt rfl (clS C34 rfl rfl rfl rfl (fun w H hH le => w34 x112.day hx156) fin1) (dt rfl (nt rfl rfl fin1) (dt rfl (m1 rfl fin1) (dt rfl (gN rfl rfl (congrArg not (hb158)) (fb 0 U105 rfl rfl rfl rfl Z3 fin1)) (dt rfl (gN rfl rfl (congrArg not (hb158)) (ld G3 rfl rfl ((sO 1 rfl).take 1) rfl fin1)) (dt rfl (gN rfl rfl (congrArg not (hb158)) (fb 1 U42 rfl rfl rfl rfl Z3 fin1)) (dt rfl (gN rfl rfl (congrArg not (hb158)) (ld G3 rfl rfl (((sS 1 rfl hK6).drop 1).take 1) rfl fin1)) (dt rfl (gN rfl rfl (congrArg not (hb158)) (gtI rfl rfl rfl fin1)) (dt rfl (pF rfl rfl (congrArg not (hb158)) rfl fin1) ?_)))))))))))
       refine dt rfl (m1 rfl fin1) (dt rfl (gf' hb160 rfl fin1) (dt rfl (gf' hb160 rfl fin1) (dt rfl (gf' hb160 rfl fin1) (dt rfl (gU rfl rfl rfl fin1) (dt rfl (gU rfl rfl rfl fin1) (dt rfl (gU rfl rfl rfl fin1) (dt rfl (gU rfl rfl rfl fin1) (dt rfl (gU rfl rfl rfl fin1) (dt rfl (gU rfl rfl rfl fin1) (dt rfl (gU rfl rfl rfl fin1) (dt rfl (gU rfl rfl rfl fin1) ?_)))))))))))
       refine dt rfl (gU rfl rfl rfl fin1) (DF.nil fun K162 hF => (gU rfl rfl rfl (gf' hb160 rfl (pt hb160 rfl rfl (on ?_)))))
       cases hr161
       intro a w hS hA
       exact ⟨hS.selH [1, 2] rfl, hA.cut ⟨rfl, rfl, rfl, rfl, rfl, tv⟩⟩
      ·have hr163 := if_n hb160 hr159
       by_cases hb164 : 0 < (s59 : Int)
       ·have hr165 := if_p hb164 hr163
        obtain ⟨x166, hx167, hr168⟩ := bd_some hr165
        obtain ⟨cs169, hcs170, hq171, hr172⟩ := hl3.at hx167
        have hr173 := hr172
        obtain ⟨ad174, cap175, rfl, hl176⟩ := hr172
        have := hl176.len
        refine drG 24 mixed (by kernel_rfl) rfl (dt rfl (fb 0 U105 rfl rfl rfl rfl Z3 fin1) (dt rfl (ld G3 rfl rfl ((sO 1 rfl).take 1) rfl fin1) (dt rfl (clS C34 rfl rfl rfl rfl (fun w H hH le => w34 x112.day hx156) fin1) (dt rfl (nt rfl rfl fin1) (dt rfl (m1 rfl fin1) (dt rfl (gN rfl rfl (congrArg not (hb158)) (fb 0 U105 rfl rfl rfl rfl Z3 fin1)) (dt rfl (gN rfl rfl (congrArg not (hb158)) (ld G3 rfl rfl ((sO 1 rfl).take 1) rfl fin1)) (dt rfl (gN rfl rfl (congrArg not (hb158)) (fb 1 U42 rfl rfl rfl rfl Z3 fin1)) (dt rfl (gN rfl rfl (congrArg not (hb158)) (ld G3 rfl rfl (((sS 1 rfl hK6).drop 1).take 1) rfl fin1)) (dt rfl (gN rfl rfl (congrArg not (hb158)) (gtI rfl rfl rfl fin1)) (dt rfl (pF rfl rfl (congrArg not (hb158)) rfl fin1) ?_)))))))))))
        refine dt rfl (m1 rfl fin1) (dt rfl (gt' hb160 rfl (m1 rfl fin1)) (dt rfl (gt' hb160 rfl (gtI rfl rfl rfl fin1)) (dt rfl (gt' hb160 rfl (m1 rfl fin1)) (dt rfl (gt hb164 rfl (fb 0 U105 rfl rfl rfl rfl Z3 fin1)) (dt rfl (gt hb164 rfl (ld G3 rfl rfl ((sO 1 rfl).take 1) rfl fin1)) (dt rfl (gt hb164 rfl (fb 4 U42 rfl rfl rfl rfl Z40 fin1)) (dt rfl (gt hb164 rfl (ld G40 rfl rfl ((sS 1 rfl hK6).drop 4) rfl fin1)) (dt rfl (gt hb164 rfl (m1 rfl fin1)) (dt rfl (gt hb164 rfl (sbI rfl rfl rfl (by omega) fin1)) (dt rfl (gt hb164 rfl (iaP U40 Z105 rfl rfl rfl (by omega) (lt_of hx167) fin1)) (dt rfl (gt hb164 rfl (fb 0 U105 rfl rfl rfl rfl Z3 fin1)) ?_)))))))))))
        refine dt rfl (gt hb164 rfl (ld G3 rfl rfl ((sS 2 rfl hq171).take 1) rfl fin1)) (DF.nil fun K177 hF => (gt hb164 rfl (leI rfl rfl rfl (gt' hb160 rfl (pt hb164 rfl rfl (pf hb160 rfl rfl (on ?_)))))))
        cases hr168
        intro a w hS hA
        exact ⟨hS.selH [1, 2] rfl, hA.cut ⟨rfl, rfl, rfl, rfl, rfl, tv⟩⟩
       ·have hr178 := if_n hb164 hr163
        refine drG 24 mixed (by kernel_rfl) rfl (dt rfl (fb 0 U105 rfl rfl rfl rfl Z3 fin1) (dt rfl (ld G3 rfl rfl ((sO 1 rfl).take 1) rfl fin1) (dt rfl (clS C34 rfl rfl rfl rfl (fun w H hH le => w34 x112.day hx156) fin1) (dt rfl (nt rfl rfl fin1) (dt rfl (m1 rfl fin1) (dt rfl (gN rfl rfl (congrArg not (hb158)) (fb 0 U105 rfl rfl rfl rfl Z3 fin1)) (dt rfl (gN rfl rfl (congrArg not (hb158)) (ld G3 rfl rfl ((sO 1 rfl).take 1) rfl fin1)) (dt rfl (gN rfl rfl (congrArg not (hb158)) (fb 1 U42 rfl rfl rfl rfl Z3 fin1)) (dt rfl (gN rfl rfl (congrArg not (hb158)) (ld G3 rfl rfl (((sS 1 rfl hK6).drop 1).take 1) rfl fin1)) (dt rfl (gN rfl rfl (congrArg not (hb158)) (gtI rfl rfl rfl fin1)) (dt rfl (pF rfl rfl (congrArg not (hb158)) rfl fin1) ?_)))))))))))
        refine dt rfl (m1 rfl fin1) (dt rfl (gt' hb160 rfl (m1 rfl fin1)) (dt rfl (gt' hb160 rfl (gtI rfl rfl rfl fin1)) (dt rfl (gt' hb160 rfl (m1 rfl fin1)) (dt rfl (gf hb164 rfl fin1) (dt rfl (gf hb164 rfl fin1) (dt rfl (gf hb164 rfl fin1) (dt rfl (gf hb164 rfl fin1) (dt rfl (gf hb164 rfl fin1) (dt rfl (gf hb164 rfl fin1) (dt rfl (gf hb164 rfl fin1) (dt rfl (gf hb164 rfl fin1) ?_)))))))))))
        refine dt rfl (gf hb164 rfl fin1) (DF.nil fun K179 hF => (gf hb164 rfl (gt' hb160 rfl (pf hb164 rfl rfl (pf hb160 rfl rfl (on ?_))))))
        cases hr178
        intro a w hS hA
        exact ⟨hS.selH [1, 2] rfl, hA.cut ⟨rfl, rfl, rfl, rfl, rfl, tv⟩⟩
     ·have hr180 := if_f hb158 hr157
      refine drG 24 mixed (by kernel_rfl) rfl (dt rfl (fb 0 U105 rfl rfl rfl rfl Z3 fin1) (dt rfl (ld G3 rfl rfl ((sO 1 rfl).take 1) rfl fin1) (dt rfl (clS C34 rfl rfl rfl rfl (fun w H hH le => w34 x112.day hx156) fin1) (dt rfl (nt rfl rfl fin1) (dt rfl (m1 rfl fin1) (dt rfl (gF rfl rfl (congrArg not (hb158)) rfl fin1) (dt rfl (gF rfl rfl (congrArg not (hb158)) rfl fin1) (dt rfl (gF rfl rfl (congrArg not (hb158)) rfl fin1) (dt rfl (gF rfl rfl (congrArg not (hb158)) rfl fin1) (dt rfl (gF rfl rfl (congrArg not (hb158)) rfl fin1) (dt rfl (pT rfl rfl (congrArg not (hb158)) rfl fin1) ?_)))))))))))
      refine dt rfl (m1 rfl fin1) (dt rfl (gF rfl rfl rfl rfl fin1) (dt rfl (gF rfl rfl rfl rfl fin1) (dt rfl (gF rfl rfl rfl rfl fin1) (dt rfl (gU rfl rfl rfl fin1) (dt rfl (gU rfl rfl rfl fin1) (dt rfl (gU rfl rfl rfl fin1) (dt rfl (gU rfl rfl rfl fin1) (dt rfl (gU rfl rfl rfl fin1) (dt rfl (gU rfl rfl rfl fin1) (dt rfl (gU rfl rfl rfl fin1) (dt rfl (gU rfl rfl rfl fin1) ?_)))))))))))
      refine dt rfl (gU rfl rfl rfl fin1) (DF.nil fun K181 hF => (gU rfl rfl rfl (gF rfl rfl rfl rfl (pT rfl rfl rfl rfl (on ?_)))))
      cases hr180
      intro a w hS hA
      exact ⟨hS.selH [1, 2] rfl, hA.cut ⟨rfl, rfl, rfl, rfl, rfl, tv⟩⟩
    ·rintro a w ⟨hS, hA⟩
     refine TG.ap ?_ hS hA
     refine cb rfl (fun hc185 => ?_) (fun hc185 => ?_)
     ·have hr186 := if_p hc185 hr154
      refine sq (rg (a1 rfl (on (rt_ ?_))))
      cases hr186
      obtain rfl := Fin.out hz61
      cases hr57
      intro a w hS hA
      refine ret1 hA rfl rfl ?_
      exact ⟨rfl, hS.ext⟩
     ·have hr187 := if_f hc185 hr154
      refine sk (rg (adI rfl rfl rfl (by omega) (m1 rfl (on (TG.del 1 ?_)))))
      cases hr187
      intro a w hS hA
      exact ⟨_, hz61, hS, hA.cut ⟨rfl, rfl, rfl, rfl, tv⟩⟩
   ·have hr188 := if_n hc66 hr60
    refine xt rfl ?_
    cases hr188
    obtain rfl := Fin.out hz61
    intro a w hS hA
    exact ⟨_, rfl, hS, hA.cut ⟨rfl, tv⟩⟩
 ·rintro a w ⟨t58, rfl, hS, hA⟩
  refine TG.ap ?_ hS hA
  refine sq ?_
  obtain ⟨t224, hx225, hr226⟩ := bd_some hr57
  refine jn (fun a w => St M W H [K5, H] [] w ∧ Has [] 64 a [(2, .bool t224)]) ?_ ?_
  ·refine rg (fb 0 U42 rfl rfl rfl rfl Z3 (ld G3 rfl rfl ((sS 0 rfl hK6).take 1) rfl ?_))
   obtain ⟨r227, hx228, hr229⟩ := bd_some hx225
   refine clS C44 rfl rfl rfl rfl (fun w H hH le => w44 v_0.number 1 99 hx228) (m1 rfl ?_)
   rcases Bool.eq_false_or_eq_true (r227) with hb230 | hb230
   ·have hr231 := if_p hb230 hr229
    refine gN rfl rfl (hb230) (fb 1 U42 rfl rfl rfl rfl Z3 (gN rfl rfl (hb230) (ld G3 rfl rfl (((sS 0 rfl hK6).drop 1).take 1) rfl (gN rfl rfl (hb230) ?_))))
    obtain ⟨r232, hx233, hr234⟩ := bd_some hr231
    refine clS C34 rfl rfl rfl rfl (fun w H hH le => w34 v_0.bound hx233) (pT rfl rfl (hb230) rfl (m1 rfl ?_))
    rcases Bool.eq_false_or_eq_true (r232) with hb235 | hb235
    ·have hr236 := if_p hb235 hr234
     refine gN rfl rfl (hb235) (fb 2 U42 rfl rfl rfl rfl Z3 (gN rfl rfl (hb235) (ld G3 rfl rfl (((sS 0 rfl hK6).drop 2).take 1) rfl (gN rfl rfl (hb235) ?_))))
     obtain ⟨r237, hx238, hr239⟩ := bd_some hr236
     refine clS C44 rfl rfl rfl rfl (fun w H hH le => w44 v_0.height 1 60 hx238) (pT rfl rfl (hb235) rfl (m1 rfl ?_))
     rcases Bool.eq_false_or_eq_true (r237) with hb240 | hb240
     ·have hr241 := if_p hb240 hr239
      refine gN rfl rfl (hb240) (fb 3 U42 rfl rfl rfl rfl Z3 (gN rfl rfl (hb240) (ld G3 rfl rfl (((sS 0 rfl hK6).drop 3).take 1) rfl (gN rfl rfl (hb240) ?_))))
      obtain ⟨r242, hx243, hr244⟩ := bd_some hr241
      refine clS C44 rfl rfl rfl rfl (fun w H hH le => w44 v_0.width 10 80 hx243) (pT rfl rfl (hb240) rfl (m1 rfl ?_))
      rcases Bool.eq_false_or_eq_true (r242) with hb245 | hb245
      ·have hr246 := if_p hb245 hr244
       refine gN rfl rfl (hb245) (ldA G42 Z42 rfl rfl (sS 0 rfl hK6) rfl (gN rfl rfl (hb245) ?_))
       obtain ⟨r247, hx248, hr249⟩ := bd_some hr246
       refine clK C53 rfl rfl rfl rfl (fun w H hH le => w53 hH v_0 (RVolume.mono _ _ _ _ (le.at 1 rfl) hh_v_0) hx248) ?_
       rintro v_ K250 ⟨ad251, cap252, rfl, hl253⟩
       have := hl253.len
       refine gN rfl rfl (hb245) ?_
       obtain ⟨r255, hx256, hr257⟩ := bd_some hr249
       refine clS (v := .bool r255) C122 rfl rfl rfl rfl (fun w H hH le => by
         have hf254 : FnV M Tryz.prog H (.func (.func 123) [].toArray [].toArray) (SF1 (Va encParagraph) Value.bool (m123)) := ⟨123, [], [], rfl, C123, fun w_ K_ args_ v_ hK hw hs => by obtain ⟨u0_, x0_, r_, rfl, h0_, hx, rfl⟩ := hs; cases h0_; exact w123  x0_ rfl  hx⟩
         exact w122 hH (hl253.mono (Flat.mono _) (le.at 0 rfl)) (right := (m123)) hf254 hx256) ?_
       refine pT rfl rfl (hb245) rfl (a1 rfl (on ?_))
       cases hr257
       intro a w hS hA
       exact ⟨hS.selH [1, 2] rfl, hA.cut ⟨rfl, tv⟩⟩
      ·have hr258 := if_f hb245 hr244
       refine gF rfl rfl (hb245) rfl (gF rfl rfl (hb245) rfl (gF rfl rfl (hb245) rfl (pF rfl rfl (hb245) rfl (a1 rfl (on ?_)))))
       cases hr258
       exact cu ⟨rfl, tv⟩
     ·have hr259 := if_f hb240 hr239
      refine gF rfl rfl (hb240) rfl (gF rfl rfl (hb240) rfl (gF rfl rfl (hb240) rfl (pF rfl rfl (hb240) rfl (m1 rfl (gF rfl rfl rfl rfl (gF rfl rfl rfl rfl (gF rfl rfl rfl rfl (pF rfl rfl rfl rfl (a1 rfl (on ?_))))))))))
      cases hr259
      exact cu ⟨rfl, tv⟩
    ·have hr260 := if_f hb235 hr234
     refine gF rfl rfl (hb235) rfl (gF rfl rfl (hb235) rfl (gF rfl rfl (hb235) rfl (pF rfl rfl (hb235) rfl (m1 rfl (gF rfl rfl rfl rfl (gF rfl rfl rfl rfl (gF rfl rfl rfl rfl (pF rfl rfl rfl rfl (m1 rfl (gF rfl rfl rfl rfl (gF rfl rfl rfl rfl ?_)))))))))))
     refine gF rfl rfl rfl rfl (pF rfl rfl rfl rfl (a1 rfl (on ?_)))
     cases hr260
     exact cu ⟨rfl, tv⟩
   ·have hr261 := if_f hb230 hr229
    refine gF rfl rfl (hb230) rfl (gF rfl rfl (hb230) rfl (gF rfl rfl (hb230) rfl (pF rfl rfl (hb230) rfl (m1 rfl (gF rfl rfl rfl rfl (gF rfl rfl rfl rfl (gF rfl rfl rfl rfl (pF rfl rfl rfl rfl (m1 rfl (gF rfl rfl rfl rfl (gF rfl rfl rfl rfl ?_)))))))))))
    refine gF rfl rfl rfl rfl (pF rfl rfl rfl rfl (m1 rfl (gF rfl rfl rfl rfl (gF rfl rfl rfl rfl (gF rfl rfl rfl rfl (pF rfl rfl rfl rfl (a1 rfl (on ?_))))))))
    cases hr261
    exact cu ⟨rfl, tv⟩
  ·rintro a w ⟨hS, hA⟩
   refine TG.ap ?_ hS hA
   refine rt_ ?_
   cases hr226
   intro a w hS hA
   refine ret1 hA rfl rfl ?_
   exact ⟨rfl, hS.ext⟩

theorem w50 {M : Prop} {W : World} {H : Hp} (hH : H.le (hp W)) {cs_v_0 : List Value} (v_0 : Volume) (h_v_0 : (RVolume) H cs_v_0 v_0) {r : Int} (hr : m50 v_0 = some r) : Calls Tryz.prog 50 [.agg cs_v_0.toArray].toArray W (RetS M W (.int .i64 r)) := by
 have hh_v_0 := h_v_0
 obtain ⟨ad1, cap2, rfl, hl3⟩ := h_v_0
 have := hl3.len
 unfold m50 at hr
 refine enterG (M := M) Tryz.func50 rfl Tryz.ntmps50 rfl hH ?_
 refine sq (rg (bI (cs := [.int .i64 v_0.number, .int .i64 v_0.bound, .int .i64 v_0.height, .int .i64 v_0.width, .slice ad1 v_0.parts.length cap2]) rfl rfl rfl fun q4 K5 hK6 => (a1 rfl (on (sq (rg (ldA G42 Z42 rfl rfl (sS 0 rfl hK6) rfl ?_)))))))
 obtain ⟨r7, hx8, hr9⟩ := bd_some hr
 refine clK C53 rfl rfl rfl rfl (fun w H hH le => w53 hH v_0 (RVolume.mono _ _ _ _ (le.at 1 rfl) hh_v_0) hx8) ?_
 rintro v_ K10 ⟨ad11, cap12, rfl, hl13⟩
 have := hl13.len
 refine a1 rfl (on (sq (bk (sq ?_))))
 obtain ⟨t30, hx31, hr32⟩ := bd_some hr9
 refine jn (fun a w => St M W H [K10, K5, H] [] w ∧ Has [] 38 a [(1, .pointer (some q4)), (3, .slice ad11 r7.length cap12), (9, .bool t30)]) ?_ ?_
 ·refine rg (fb 4 U42 rfl rfl rfl rfl Z40 (ld G40 rfl rfl ((sS 1 rfl hK6).drop 4) rfl (lnL U40 rfl rfl (gtI rfl rfl rfl (m1 rfl ?_)))))
  by_cases hb33 : 6 < (v_0.parts.length : Int)
  ·have hr34 := if_p hb33 hx31
   refine gf' hb33 rfl (gf' hb33 rfl (gf' hb33 rfl (pt hb33 rfl rfl (a1 rfl (on ?_)))))
   cases hr34
   exact cu ⟨rfl, rfl, rfl, tv⟩
  ·have hr35 := if_n hb33 hx31
   refine gt' hb33 rfl (m1 rfl (gt' hb33 rfl (lnL U36 rfl rfl (gt' hb33 rfl (gtI rfl rfl rfl (pf hb33 rfl rfl (a1 rfl (on ?_))))))))
   cases hr35
   exact cu ⟨rfl, rfl, rfl, tv⟩
 ·rintro a w ⟨hS, hA⟩
  refine TG.ap ?_ hS hA
  refine cb rfl (fun hc45 => ?_) (fun hc45 => ?_)
  ·have hr46 := if_p hc45 hr32
   refine sq (rg (a1 rfl (on (rt_ ?_))))
   cases hr46
   intro a w hS hA
   refine ret1 hA rfl rfl ?_
   exact ⟨rfl, hS.ext⟩
  ·have hr47 := if_f hc45 hr32
   refine sq (rg (ldA G42 Z42 rfl rfl (sS 1 rfl hK6) rfl ?_))
   obtain ⟨r48, hx49, hr50⟩ := bd_some hr47
   refine clS C80 rfl rfl rfl rfl (fun w H hH le => w80 hH v_0 (RVolume.mono _ _ _ _ (le.at 2 rfl) hh_v_0) hx49) (nt rfl rfl (a1 rfl (on ?_)))
   refine cb rfl (fun hc54 => ?_) (fun hc54 => ?_)
   ·replace hc54 := nbt hc54
    have hr55 := if_f hc54 hr50
    refine sq (rg (a1 rfl (on (rt_ ?_))))
    cases hr55
    intro a w hS hA
    refine ret1 hA rfl rfl ?_
    exact ⟨rfl, hS.ext⟩
   ·replace hc54 := nbf hc54
    have hr56 := if_p hc54 hr50
    refine sk (sq (rg (mkM 1 keI Value.bool rfl fun b57 => (a1 rfl (on (sq (sq (rg (m1 rfl (lnL U36 rfl rfl (m1 rfl ?_)))))))))))
    refine on ?_
    obtain ⟨e94, hl95, hr96⟩ := bd_some hr56
    refine jn (fun a w => ∃ t97, e94 = .inl t97 ∧ St M W H [K10, K5, H] [(1, Own.map' keI Value.bool b57 t97)] w ∧ Has [] 38 a []) ?_ ?_
    ·refine bk ?_
     refine lp hl95 (fun s98 a w => St M W H [K10, K5, H] [(1, Own.map' keI Value.bool b57 s98.2)] w ∧ Has [] 38 a [(4, .map (some b57)), (24, .slice ad11 r7.length cap12), (25, .int .i64 (r7.length : Int)), (26, .int .i64 (s98.1 : Int))]) ?_ ?_
     ·exact cu ⟨rfl, rfl, rfl, rfl, tv⟩
     ·rintro j s98 y101 hr99 hz100 a w ⟨hS, hA⟩
      refine TG.ap ?_ hS hA
      unfold m50_1 at hr99
      refine sq (rg (ltI rfl rfl rfl (on (sq ?_))))
      refine ci rfl (fun hc105 => ?_) (fun hc105 => ?_)
      ·have hr106 := if_p hc105 hr99
       refine sk (sq (bk (sq (rg ?_))))
       obtain ⟨x121, hx122, hr123⟩ := bd_some hr106
       obtain ⟨p124, rfl⟩ := hl13.adr hx122
       obtain ⟨cs125, hcs126, hq127, hr128⟩ := hl13.at hx122
       obtain rfl := hr128
       refine iaP U36 Z52 rfl rfl rfl rfl (lt_of hx122) (ldA G52 Z52 rfl rfl (sS 0 rfl hq127) rfl (va (cs := [.int .i64 x121.anchor, .string (bs x121.text)]) Tryz.zeroValue52 Z52 rfl rfl rfl rfl rfl rfl rfl rfl fun q129 K130 hK131 => (on (sq (sq (rg (m1 rfl (fb 0 U52 rfl rfl rfl rfl Z3 (ld G3 rfl rfl ((sS 0 rfl hK131).take 1) rfl (lk1 (ke := keI) (enc := Value.bool) x121.anchor (z0 := false) U158 U3 Tryz.zeroValue4 rfl rfl rfl rfl (mO 1 rfl) (on ?_)))))))))))
       refine cb rfl (fun hc135 => ?_) (fun hc135 => ?_)
       ·have hr136 := if_p hc135 hr123
        refine sq (rg (a1 rfl (on (rt_ ?_))))
        cases hr136
        obtain rfl := Fin.out hz100
        cases hr96
        intro a w hS hA
        refine ret1 hA rfl rfl ?_
        exact ⟨rfl, hS.ext⟩
       ·have hr137 := if_f hc135 hr123
        refine sk (rg (m1 rfl (fb 0 U52 rfl rfl rfl rfl Z3 (ld G3 rfl rfl ((sS 0 rfl hK131).take 1) rfl (mpU 1 (ke := keI) (enc := Value.bool) x121.anchor true U158 U3 rfl rfl rfl rfl (on (rg (adI rfl rfl rfl (by omega) (m1 rfl (on ?_))))))))))
        cases hr137
        intro a w hS hA
        exact ⟨_, hz100, hS.selH [1, 2, 3] rfl, hA.cut ⟨rfl, rfl, rfl, rfl, tv⟩⟩
      ·have hr138 := if_n hc105 hr99
       refine xt rfl ?_
       cases hr138
       obtain rfl := Fin.out hz100
       intro a w hS hA
       exact ⟨_, rfl, hS, hA.cut tv⟩
    ·rintro a w ⟨t97, rfl, hS, hA⟩
     refine TG.ap ?_ hS hA
     refine sq (rg (a1 rfl (on (rt_ ?_))))
     cases hr96
     intro a w hS hA
     refine ret1 hA rfl rfl ?_
     exact ⟨rfl, hS.ext⟩

theorem w82 {M : Prop} {W : World} {H : Hp} (hH : H.le (hp W)) {cs_x_0 : List Value} (x_0 : Erratum) (h_x_0 : (Flat encErratum) H cs_x_0 x_0) {q_f0_ : Addr} {fv_f0_ : Value} {f0_ : Erratum → Option Bool} (hc_f0_ : CellsAt H q_f0_ [fv_f0_]) (h_f0_ : FnV M Tryz.prog H fv_f0_ (SF1 (Va encErratum) Value.bool f0_)) {r : Bool} (hr : m82 x_0 f0_ = some r) : Calls Tryz.prog 82 [.agg cs_x_0.toArray, .pointer (some q_f0_)].toArray W (RetS M W (.bool r)) := by
 obtain rfl := h_x_0
 have hh_f0_ := h_f0_
 obtain ⟨f_f0_, fi_f0_, ca_f0_, rfl, _, _⟩ := h_f0_
 unfold m82 at hr
 refine enterG (M := M) Tryz.func82 rfl Tryz.ntmps82 rfl hH ?_
 refine sq (rg (bI (cs := [.int .i64 x_0.number, .int .i64 x_0.day, .int .u8 x_0.kind, .int .i64 x_0.anchor, .string (bs x_0.text), .int .i64 x_0.new_]) rfl rfl rfl fun q1 K2 hK3 => (a1 rfl (on (sq (rg (ld G157 rfl rfl (sS 1 rfl hc_f0_) rfl (ldA G116 Z116 rfl rfl (sS 0 rfl hK3) rfl ?_))))))))
 obtain ⟨r4, hx5, hr6⟩ := bd_some hr
 refine clV (v := .bool r4) hh_f0_ 1 rfl rfl rfl rfl (fun H le => ⟨_, x_0, r4, rfl, rfl, hx5, rfl⟩) (nt rfl rfl (a1 rfl (on (rt_ ?_))))
 cases hr6
 intro a w hS hA
 refine ret1 hA rfl rfl ?_
 exact ⟨rfl, hS.ext⟩

theorem w124 {M : Prop} {W : World} {H : Hp} (hH : H.le (hp W)) {ad_s_0 : Option Addr} {cap_s_0 : Nat} {s_0 : List Erratum} (h_s_0 : Sl (Flat encErratum) 6 H ad_s_0 cap_s_0 s_0) {fv_f_1 : Value} {f_1 : Erratum → Option Bool} (h_f_1 : FnV M Tryz.prog H fv_f_1 (SF1 (Va encErratum) Value.bool f_1)) {r : Int} (hr : m124 s_0 f_1 = some r) : Calls Tryz.prog 124 [.slice ad_s_0 s_0.length cap_s_0, fv_f_1].toArray W (RetS M W (.int .i64 r)) := by
 have := h_s_0.len
 have hh_f_1 := h_f_1
 obtain ⟨f_f_1, fi_f_1, ca_f_1, rfl, _, _⟩ := h_f_1
 unfold m124 at hr
 refine enterG (M := M) Tryz.func124 rfl Tryz.ntmps124 rfl hH ?_
 refine sq (rg (a1 rfl (on (sq (sq (rg (m1 rfl (lnL U44 rfl rfl (m1 rfl (on ?_))))))))))
 obtain ⟨e19, hl20, hr21⟩ := bd_some hr
 refine jn (fun a w => ∃ t22, e19 = .inl t22 ∧ St M W H [H] [] w ∧ Has [] 19 a []) ?_ ?_
 ·refine bk ?_
  refine lp hl20 (fun s23 a w => St M W H [H] [] w ∧ Has [] 19 a [(0, .slice ad_s_0 s_0.length cap_s_0), (1, .func (.func f_f_1) fi_f_1.toArray ca_f_1.toArray), (7, .int .i64 (s_0.length : Int)), (8, .int .i64 (s23 : Int))]) ?_ ?_
  ·exact cu ⟨rfl, rfl, rfl, rfl, tv⟩
  ·rintro j s23 y26 hr24 hz25 a w ⟨hS, hA⟩
   refine TG.ap ?_ hS hA
   unfold m124_1 at hr24
   refine sq (rg (ltI rfl rfl rfl (on (sq ?_))))
   refine ci rfl (fun hc30 => ?_) (fun hc30 => ?_)
   ·have hr31 := if_p hc30 hr24
    refine sk (sq (bk (sq (rg (m1 rfl (a1 rfl (on (sq (rg (m1 rfl (m1 rfl ?_)))))))))))
    refine m1 rfl ?_
    obtain ⟨x46, hx47, hr48⟩ := bd_some hr31
    obtain ⟨p49, rfl⟩ := h_s_0.adr hx47
    obtain ⟨cs50, hcs51, hq52, hr53⟩ := h_s_0.at hx47
    obtain rfl := hr53
    refine iaP U44 Z116 rfl rfl rfl rfl (lt_of hx47) (ldA G116 Z116 rfl rfl (sS 0 rfl hq52) rfl ?_)
    obtain ⟨r54, hx55, hr56⟩ := bd_some hr48
    refine clV (v := .bool r54) hh_f_1 0 rfl rfl rfl rfl (fun H le => ⟨_, x46, r54, rfl, rfl, hx55, rfl⟩) (on ?_)
    refine cb rfl (fun hc60 => ?_) (fun hc60 => ?_)
    ·have hr61 := if_p hc60 hr56
     refine sq (rg (m1 rfl (a1 rfl (on (rt_ ?_)))))
     cases hr61
     obtain rfl := Fin.out hz25
     cases hr21
     intro a w hS hA
     refine ret1 hA rfl rfl ?_
     exact ⟨rfl, hS.ext⟩
    ·have hr62 := if_f hc60 hr56
     refine sk (rg (adI rfl rfl rfl (by omega) (m1 rfl (on ?_))))
     cases hr62
     intro a w hS hA
     exact ⟨_, hz25, hS, hA.cut ⟨rfl, rfl, rfl, rfl, tv⟩⟩
   ·have hr63 := if_n hc30 hr24
    refine xt rfl ?_
    cases hr63
    obtain rfl := Fin.out hz25
    intro a w hS hA
    exact ⟨_, rfl, hS, hA.cut tv⟩
 ·rintro a w ⟨t22, rfl, hS, hA⟩
  refine TG.ap ?_ hS hA
  refine sq (rg (a1 rfl (on (rt_ ?_))))
  cases hr21
  intro a w hS hA
  refine ret1 hA rfl rfl ?_
  exact ⟨rfl, hS.ext⟩

theorem w81 {M : Prop} {W : World} {H : Hp} (hH : H.le (hp W)) {ad_s_0 : Option Addr} {cap_s_0 : Nat} {s_0 : List Erratum} (h_s_0 : Sl (Flat encErratum) 6 H ad_s_0 cap_s_0 s_0) {fv_f_1 : Value} {f_1 : Erratum → Option Bool} (h_f_1 : FnV M Tryz.prog H fv_f_1 (SF1 (Va encErratum) Value.bool f_1)) {r : Bool} (hr : m81 s_0 f_1 = some r) : Calls Tryz.prog 81 [.slice ad_s_0 s_0.length cap_s_0, fv_f_1].toArray W (RetS M W (.bool r)) := by
 have := h_s_0.len
 have hh_f_1 := h_f_1
 obtain ⟨f_f_1, fi_f_1, ca_f_1, rfl, _, _⟩ := h_f_1
 unfold m81 at hr
 refine enterG (M := M) Tryz.func81 rfl Tryz.ntmps81 rfl hH ?_
 refine sq (rg (a1 rfl (on (sq (rg (m1 rfl (m1 rfl ?_)))))))
 obtain ⟨r1, hx2, hr3⟩ := bd_some hr
 refine clS C124 rfl rfl rfl rfl (fun w H hH le => w124 hH (h_s_0.mono (Flat.mono _) (le.at 0 rfl)) (f_1 := f_1) (hh_f_1.mono (le.at 0 rfl)) hx2) (geI rfl rfl rfl (a1 rfl (on (rt_ ?_))))
 cases hr3
 intro a w hS hA
 refine ret1 hA rfl rfl ?_
 exact ⟨rfl, hS.ext⟩

theorem w51 {M : Prop} {W : World} {H : Hp} (hH : H.le (hp W)) {ad_l_0 : Option Addr} {cap_l_0 : Nat} {l_0 : List Erratum} (h_l_0 : Sl (Flat encErratum) 6 H ad_l_0 cap_l_0 l_0) {fv_right : Value} {right : Erratum → Option Bool} (h_right : FnV M Tryz.prog H fv_right (SF1 (Va encErratum) Value.bool right)) {r : Bool} (hr : m51 l_0 right = some r) : Calls Tryz.prog 51 [.slice ad_l_0 l_0.length cap_l_0, fv_right].toArray W (RetS M W (.bool r)) := by
 have := h_l_0.len
 have hh_right := h_right
 obtain ⟨f_right, fi_right, ca_right, rfl, _, _⟩ := h_right
 unfold m51 at hr
 refine enterG (M := M) Tryz.func51 rfl Tryz.ntmps51 rfl hH ?_
 refine sq (rg (bI (cs := [.func (.func f_right) fi_right.toArray ca_right.toArray]) rfl rfl rfl fun q1 K2 hK3 => (a1 rfl (on (sq (rg (m1 rfl (fn rfl rfl rfl ?_))))))))
 obtain ⟨r5, hx6, hr7⟩ := bd_some hr
 refine clS (v := .bool r5) C81 rfl rfl rfl rfl (fun w H hH le => by
   have hf4 : FnV M Tryz.prog H (.func (.func 82) [].toArray [.pointer (some q1)].toArray) (SF1 (Va encErratum) Value.bool (fun x0_ => m82 x0_ right)) := ⟨82, [], [.pointer (some q1)], rfl, C82, fun w_ K_ args_ v_ hK hw hs => by obtain ⟨u0_, x0_, r_, rfl, h0_, hx, rfl⟩ := hs; cases h0_; exact w82 (H := K_) hw  x0_ rfl (f0_ := right) (hK3.mono ((le.at 0 rfl).trans hK)) (hh_right.mono ((le.at 1 rfl).trans hK)) hx⟩
   exact w81 hH (h_l_0.mono (Flat.mono _) (le.at 1 rfl)) (f_1 := (fun x0_ => m82 x0_ right)) hf4 hx6) ?_
 refine nt rfl rfl (a1 rfl (on (rt_ ?_)))
 cases hr7
 intro a w hS hA
 refine ret1 hA rfl rfl ?_
 exact ⟨rfl, hS.ext⟩

theorem w52 {M : Prop} {W : World} {cs_x_0 : List Value} (x_0 : Erratum) (h_x_0 : (Flat encErratum) (hp W) cs_x_0 x_0) {r : Bool} (hr : m52 x_0 = some r) : Calls Tryz.prog 52 [.agg cs_x_0.toArray].toArray W (RetS M W (.bool r)) := by
 obtain rfl := h_x_0
 unfold m52 at hr
 refine enterG (M := M) Tryz.func52 rfl Tryz.ntmps52 rfl (Hp.le.refl _) ?_
 refine sq (rg (bI (cs := [.int .i64 x_0.number, .int .i64 x_0.day, .int .u8 x_0.kind, .int .i64 x_0.anchor, .string (bs x_0.text), .int .i64 x_0.new_]) rfl rfl rfl fun q1 K2 hK3 => (a1 rfl (on (sq (sq ?_))))))
 obtain ⟨t19, hx20, hr21⟩ := bd_some hr
 refine jn (fun a w => St M W (hp W) [K2, (hp W)] [] w ∧ Has [] 51 a [(1, .pointer (some q1)), (18, .bool t19)]) ?_ ?_
 ·refine rg (fb 0 U116 rfl rfl rfl rfl Z3 (ld G3 rfl rfl ((sS 0 rfl hK3).take 1) rfl ?_))
  obtain ⟨r22, hx23, hr24⟩ := bd_some hx20
  refine clS C44 rfl rfl rfl rfl (fun w H hH le => w44 x_0.number 1 999 hx23) (nt rfl rfl (m1 rfl ?_))
  rcases Bool.eq_false_or_eq_true (r22) with hb25 | hb25
  ·have hr26 := if_p hb25 hr24
   refine gN rfl rfl (congrArg not (hb25)) (fb 1 U116 rfl rfl rfl rfl Z3 (gN rfl rfl (congrArg not (hb25)) (ld G3 rfl rfl (((sS 0 rfl hK3).drop 1).take 1) rfl (gN rfl rfl (congrArg not (hb25)) ?_))))
   obtain ⟨r27, hx28, hr29⟩ := bd_some hr26
   refine clS C34 rfl rfl rfl rfl (fun w H hH le => w34 x_0.day hx28) (gN rfl rfl (congrArg not (hb25)) (nt rfl rfl (pF rfl rfl (congrArg not (hb25)) rfl (m1 rfl ?_))))
   rcases Bool.eq_false_or_eq_true (r27) with hb30 | hb30
   ·have hr31 := if_p hb30 hr29
    refine gN rfl rfl (congrArg not (hb30)) (fb 3 U116 rfl rfl rfl rfl Z3 (gN rfl rfl (congrArg not (hb30)) (ld G3 rfl rfl (((sS 0 rfl hK3).drop 3).take 1) rfl (gN rfl rfl (congrArg not (hb30)) ?_))))
    obtain ⟨r32, hx33, hr34⟩ := bd_some hr31
    refine clS C83 rfl rfl rfl rfl (fun w H hH le => w83 x_0.anchor hx33) (gN rfl rfl (congrArg not (hb30)) (nt rfl rfl (pF rfl rfl (congrArg not (hb30)) rfl (on ?_))))
    cases hr34
    exact cu ⟨rfl, rfl, tv⟩
   ·have hr35 := if_f hb30 hr29
    refine gF rfl rfl (congrArg not (hb30)) rfl (gF rfl rfl (congrArg not (hb30)) rfl (gF rfl rfl (congrArg not (hb30)) rfl (gF rfl rfl (congrArg not (hb30)) rfl (pT rfl rfl (congrArg not (hb30)) rfl (on ?_)))))
    cases hr35
    exact cu ⟨rfl, rfl, tv⟩
  ·have hr36 := if_f hb25 hr24
   refine gF rfl rfl (congrArg not (hb25)) rfl (gF rfl rfl (congrArg not (hb25)) rfl (gF rfl rfl (congrArg not (hb25)) rfl (gF rfl rfl (congrArg not (hb25)) rfl (pT rfl rfl (congrArg not (hb25)) rfl (m1 rfl (gF rfl rfl rfl rfl (gF rfl rfl rfl rfl (gF rfl rfl rfl rfl (gF rfl rfl rfl rfl (pT rfl rfl rfl rfl (on ?_)))))))))))
   cases hr36
   exact cu ⟨rfl, rfl, tv⟩
 ·rintro a w ⟨hS, hA⟩
  refine TG.ap ?_ hS hA
  refine cb rfl (fun hc40 => ?_) (fun hc40 => ?_)
  ·have hr41 := if_p hc40 hr21
   refine sq (rg (a1 rfl (on (rt_ ?_))))
   cases hr41
   intro a w hS hA
   refine ret1 hA rfl rfl ?_
   exact ⟨rfl, hS.ext⟩
  ·have hr42 := if_f hc40 hr21
   refine sk (sq (sq (rg (fb 2 U116 rfl rfl rfl rfl Z5 (ld G5 rfl rfl (((sS 0 rfl hK3).drop 2).take 1) rfl (on (bk (sq (rg (eqI rfl rfl rfl (a1 rfl ?_)))))))))))
   refine on ?_
   refine ci rfl (fun hc103 => ?_) (fun hc103 => ?_)
   ·have hr104 := if_p hc103 hr42
    refine sq ?_
    obtain ⟨t111, hx112, hr113⟩ := bd_some hr104
    refine jn (fun a w => St M W (hp W) [K2, (hp W)] [] w ∧ Has [] 51 a [(2, .bool t111)]) ?_ ?_
    ·refine rg (fb 4 U116 rfl rfl rfl rfl Z9 (ld G9 rfl rfl (((sS 0 rfl hK3).drop 4).take 1) rfl ?_))
     obtain ⟨r114, hx115, hr116⟩ := bd_some hx112
     refine clS C84 rfl rfl rfl rfl (fun w H hH le => w84 x_0.text hx115) (m1 rfl ?_)
     rcases Bool.eq_false_or_eq_true (r114) with hb117 | hb117
     ·have hr118 := if_p hb117 hr116
      refine gN rfl rfl (hb117) (fb 5 U116 rfl rfl rfl rfl Z3 (gN rfl rfl (hb117) (ld G3 rfl rfl ((sS 0 rfl hK3).drop 5) rfl (gN rfl rfl (hb117) (eqI rfl rfl rfl (pT rfl rfl (hb117) rfl (a1 rfl (on ?_))))))))
      cases hr118
      exact cu ⟨rfl, tv⟩
     ·have hr119 := if_f hb117 hr116
      refine gF rfl rfl (hb117) rfl (gF rfl rfl (hb117) rfl (gF rfl rfl (hb117) rfl (pF rfl rfl (hb117) rfl (a1 rfl (on ?_)))))
      cases hr119
      exact cu ⟨rfl, tv⟩
    ·rintro a w ⟨hS, hA⟩
     refine TG.ap ?_ hS hA
     refine rt_ ?_
     cases hr113
     intro a w hS hA
     refine ret1 hA rfl rfl ?_
     exact ⟨rfl, hS.ext⟩
   ·have hr120 := if_n hc103 hr42
    refine sq (rg (eqI rfl rfl rfl (a1 rfl (on ?_))))
    refine ci rfl (fun hc141 => ?_) (fun hc141 => ?_)
    ·have hr142 := if_p hc141 hr120
     refine sq ?_
     obtain ⟨t146, hx147, hr148⟩ := bd_some hr142
     refine jn (fun a w => St M W (hp W) [K2, (hp W)] [] w ∧ Has [] 51 a [(2, .bool t146)]) ?_ ?_
     ·refine rg (fb 4 U116 rfl rfl rfl rfl Z9 (ld G9 rfl rfl (((sS 0 rfl hK3).drop 4).take 1) rfl (eqS rfl rfl rfl (m1 rfl ?_))))
      by_cases hb149 : x_0.text = []
      ·have hr150 := if_p hb149 hx147
       refine gt hb149 rfl (fb 5 U116 rfl rfl rfl rfl Z3 (gt hb149 rfl (ld G3 rfl rfl ((sS 0 rfl hK3).drop 5) rfl (gt hb149 rfl (eqI rfl rfl rfl (pt hb149 rfl rfl (a1 rfl (on ?_))))))))
       cases hr150
       exact cu ⟨rfl, tv⟩
      ·have hr151 := if_n hb149 hx147
       refine gf hb149 rfl (gf hb149 rfl (gf hb149 rfl (pf hb149 rfl rfl (a1 rfl (on ?_)))))
       cases hr151
       exact cu ⟨rfl, tv⟩
     ·rintro a w ⟨hS, hA⟩
      refine TG.ap ?_ hS hA
      refine rt_ ?_
      cases hr148
      intro a w hS hA
      refine ret1 hA rfl rfl ?_
      exact ⟨rfl, hS.ext⟩
    ·have hr152 := if_n hc141 hr120
     refine sq (rg (eqI rfl rfl rfl (a1 rfl (on ?_))))
     refine ci rfl (fun hc166 => ?_) (fun hc166 => ?_)
     ·have hr167 := if_p hc166 hr152
      refine sq ?_
      obtain ⟨t177, hx178, hr179⟩ := bd_some hr167
      refine jn (fun a w => St M W (hp W) [K2, (hp W)] [] w ∧ Has [] 51 a [(2, .bool t177)]) ?_ ?_
      ·refine rg (fb 4 U116 rfl rfl rfl rfl Z9 (ld G9 rfl rfl (((sS 0 rfl hK3).drop 4).take 1) rfl ?_))
       obtain ⟨r180, hx181, hr182⟩ := bd_some hx178
       refine clS C84 rfl rfl rfl rfl (fun w H hH le => w84 x_0.text hx181) (m1 rfl ?_)
       rcases Bool.eq_false_or_eq_true (r180) with hb183 | hb183
       ·have hr184 := if_p hb183 hr182
        refine gN rfl rfl (hb183) (fb 5 U116 rfl rfl rfl rfl Z3 (gN rfl rfl (hb183) (ld G3 rfl rfl ((sS 0 rfl hK3).drop 5) rfl (gN rfl rfl (hb183) ?_))))
        obtain ⟨r185, hx186, hr187⟩ := bd_some hr184
        refine clS C83 rfl rfl rfl rfl (fun w H hH le => w83 x_0.new_ hx186) (pT rfl rfl (hb183) rfl (a1 rfl (on ?_)))
        cases hr187
        exact cu ⟨rfl, tv⟩
       ·have hr188 := if_f hb183 hr182
        refine gF rfl rfl (hb183) rfl (gF rfl rfl (hb183) rfl (gF rfl rfl (hb183) rfl (pF rfl rfl (hb183) rfl (a1 rfl (on ?_)))))
        cases hr188
        exact cu ⟨rfl, tv⟩
      ·rintro a w ⟨hS, hA⟩
       refine TG.ap ?_ hS hA
       refine rt_ ?_
       cases hr179
       intro a w hS hA
       refine ret1 hA rfl rfl ?_
       exact ⟨rfl, hS.ext⟩
     ·have hr189 := if_n hc166 hr152
      refine sk (sq (rg (a1 rfl (on (rt_ ?_)))))
      cases hr189
      intro a w hS hA
      refine ret1 hA rfl rfl ?_
      exact ⟨rfl, hS.ext⟩

theorem w86 {M : Prop} {W : World} {H : Hp} (hH : H.le (hp W)) {ad_s_0 : Option Addr} {cap_s_0 : Nat} {s_0 : List Erratum} (h_s_0 : Sl (Flat encErratum) 6 H ad_s_0 cap_s_0 s_0) {r : List Erratum} (hr : m86 s_0 = some r) : Calls Tryz.prog 86 [.slice ad_s_0 s_0.length cap_s_0].toArray W (RetK M H W (fun v K => ∃ (ad0 : Option Addr) (cap0 : Nat), v = .slice ad0 r.length cap0 ∧ Sl (Flat encErratum) 6 K ad0 cap0 r)) := by
 have := h_s_0.len
 unfold m86 at hr
 refine enterG (M := M) Tryz.func86 rfl Tryz.ntmps86 rfl hH ?_
 refine sq (rg (a1 rfl (on (sq (sq (rg (m1 rfl (slN U44 rfl rfl (on ?_)))))))))
 refine cb rfl (fun hc3 => ?_) (fun hc3 => ?_)
 ·obtain rfl := Sl.isNil h_s_0 hc3
  have hr4 := (chk_some hr).2
  refine sq (rg (a1 rfl (on (rt_ ?_))))
  cases hr4
  intro a w hS hA
  refine ret1 hA rfl rfl ?_
  exact ⟨⟨_, _, rfl, (Sl.nil _ _ _ _ _ (by decide))⟩, hS.ext⟩
 ·refine sk (sq (rg (bSL 1 encErratum ([] : List Erratum) (cs := []) T10.E44 rfl rfl rfl rfl rfl rfl fun b5 => (m1 rfl ?_))))
  obtain ⟨hk6, hr7⟩ := chk_some hr
  have := lenA ([] : List Erratum) s_0
  refine apS 1 (enc := encErratum) (l := ([] : List Erratum)) (m := s_0) T10.E44 rfl rfl rfl rfl rfl rfl h_s_0 0 rfl (fun _ => rfl) (fun _ => rfl) rfl hk6 fun ad8 cap9 => (a1 rfl (on (rt_ ?_)))
  cases hr7
  intro a w hS hA
  refine ret1 hA rfl rfl ?_
  exact ⟨⟨_, _, rfl, (hS.listOut 1 rfl (fun _ => rfl))⟩, hS.ext⟩

theorem w171 {M : Prop} {W : World} (x_0 : Int) {r : Bool} (hr : m171 x_0 = some r) : Calls Tryz.prog 171 [.int .i64 x_0].toArray W (RetS M W (.bool r)) := by
 unfold m171 at hr
 refine enterG (M := M) Tryz.func171 rfl Tryz.ntmps171 rfl (Hp.le.refl _) ?_
 refine sq (rg (a1 rfl (on (sq (rg (m1 rfl (m1 rfl (neI rfl rfl rfl (a1 rfl (on (rt_ ?_)))))))))))
 obtain rfl := sj hr
 intro a w hS hA
 refine ret1 hA rfl rfl ?_
 exact ⟨rfl, hS.ext⟩

theorem w130 {M : Prop} {W : World} (x_0 : Int) (y_1 : Int) {r : Int} (hr : m130 x_0 y_1 = some r) : Calls Tryz.prog 130 [.int .i64 x_0, .int .i64 y_1].toArray W (RetS M W (.int .i64 r)) := by
 unfold m130 at hr
 refine enterG (M := M) Tryz.func130 rfl Tryz.ntmps130 rfl (Hp.le.refl _) ?_
 refine sq (rg (a1 rfl (on (sq (rg (m1 rfl ?_))))))
 obtain ⟨r1, hx2, hr3⟩ := bd_some hr
 refine clS C171 rfl rfl rfl rfl (fun w H hH le => w171 x_0 hx2) (a1 rfl (on (sq (rg (m1 rfl ?_)))))
 obtain ⟨r4, hx5, hr6⟩ := bd_some hr3
 refine clS C171 rfl rfl rfl rfl (fun w H hH le => w171 y_1 hx5) (a1 rfl (on (sq (sq (rg (m1 rfl (on ?_)))))))
 refine cb rfl (fun hc13 => ?_) (fun hc13 => ?_)
 ·have hr14 := if_p hc13 hr6
  refine sq (sq (rg (m1 rfl (on ?_))))
  refine cb rfl (fun hc18 => ?_) (fun hc18 => ?_)
  ·have hr19 := if_p hc18 hr14
   refine sq (rg (a1 rfl (on (rt_ ?_))))
   cases hr19
   intro a w hS hA
   refine ret1 hA rfl rfl ?_
   exact ⟨rfl, hS.ext⟩
  ·have hr20 := if_f hc18 hr14
   refine sk (sq (rg (a1 rfl (on (rt_ ?_)))))
   cases hr20
   intro a w hS hA
   refine ret1 hA rfl rfl ?_
   exact ⟨rfl, hS.ext⟩
 ·have hr21 := if_f hc13 hr6
  refine sk (sq (sq (rg (m1 rfl (on ?_)))))
  refine cb rfl (fun hc25 => ?_) (fun hc25 => ?_)
  ·have hr26 := if_p hc25 hr21
   refine sq (rg (a1 rfl (on (rt_ ?_))))
   cases hr26
   intro a w hS hA
   refine ret1 hA rfl rfl ?_
   exact ⟨rfl, hS.ext⟩
  ·have hr27 := if_f hc25 hr21
   refine sk (sq (sq (rg (m1 rfl (m1 rfl (ltI rfl rfl rfl (on ?_)))))))
   refine ci rfl (fun hc31 => ?_) (fun hc31 => ?_)
   ·have hr32 := if_p hc31 hr27
    refine sq (rg (a1 rfl (on (rt_ ?_))))
    cases hr32
    intro a w hS hA
    refine ret1 hA rfl rfl ?_
    exact ⟨rfl, hS.ext⟩
   ·have hr33 := if_n hc31 hr27
    refine sk (sq (sq (rg (m1 rfl (m1 rfl (gtI rfl rfl rfl (on ?_)))))))
    refine ci rfl (fun hc37 => ?_) (fun hc37 => ?_)
    ·have hr38 := if_p hc37 hr33
     refine sq (rg (a1 rfl (on (rt_ ?_))))
     cases hr38
     intro a w hS hA
     refine ret1 hA rfl rfl ?_
     exact ⟨rfl, hS.ext⟩
    ·have hr39 := if_n hc37 hr33
     refine sk (sq (rg (a1 rfl (on (rt_ ?_)))))
     cases hr39
     intro a w hS hA
     refine ret1 hA rfl rfl ?_
     exact ⟨rfl, hS.ext⟩

theorem w88 {M : Prop} {W : World} {cs_a_0 : List Value} (a_0 : Erratum) (h_a_0 : (Flat encErratum) (hp W) cs_a_0 a_0) {cs_b_1 : List Value} (b_1 : Erratum) (h_b_1 : (Flat encErratum) (hp W) cs_b_1 b_1) {r : Int} (hr : m88 a_0 b_1 = some r) : Calls Tryz.prog 88 [.agg cs_a_0.toArray, .agg cs_b_1.toArray].toArray W (RetS M W (.int .i64 r)) := by
 obtain rfl := h_a_0
 obtain rfl := h_b_1
 unfold m88 at hr
 refine enterG (M := M) Tryz.func88 rfl Tryz.ntmps88 rfl (Hp.le.refl _) ?_
 refine sq (rg (bI (cs := [.int .i64 a_0.number, .int .i64 a_0.day, .int .u8 a_0.kind, .int .i64 a_0.anchor, .string (bs a_0.text), .int .i64 a_0.new_]) rfl rfl rfl fun q1 K2 hK3 => (bI (cs := [.int .i64 b_1.number, .int .i64 b_1.day, .int .u8 b_1.kind, .int .i64 b_1.anchor, .string (bs b_1.text), .int .i64 b_1.new_]) rfl rfl rfl fun q4 K5 hK6 => (a1 rfl (on (sq ?_))))))
 obtain ⟨r7, hx8, hr9⟩ := bd_some hr
 refine drG 9 mixed (by kernel_rfl) rfl (dt rfl (fb 1 U116 rfl rfl rfl rfl Z3 fin1) (dt rfl (ld G3 rfl rfl (((sS 2 rfl hK3).drop 1).take 1) rfl fin1) (dt rfl (fb 1 U116 rfl rfl rfl rfl Z3 fin1) (dt rfl (ld G3 rfl rfl (((sS 1 rfl hK6).drop 1).take 1) rfl fin1) (dt rfl (clS C130 rfl rfl rfl rfl (fun w H hH le => w130 a_0.day b_1.day hx8) fin1) (dt rfl (fb 0 U116 rfl rfl rfl rfl Z3 fin1) (dt rfl (ld G3 rfl rfl ((sS 2 rfl hK3).take 1) rfl fin1) (dt rfl (fb 0 U116 rfl rfl rfl rfl Z3 fin1) (dt rfl (ld G3 rfl rfl ((sS 1 rfl hK6).take 1) rfl fin1) (DF.nil fun K10 hF => ?_))))))))))
 obtain ⟨r11, hx12, hr13⟩ := bd_some hr9
 refine clS C130 rfl rfl rfl rfl (fun w H hH le => w130 a_0.number b_1.number hx12) (bS (cs := [.int .i64 r7, .int .i64 r11]) T10.E28 rfl rfl rfl rfl fun q14 K15 hq16 hK17 => ?_)
 have hl18 : Sl (Flat (encI .i64)) 1 K15 (some q14) 2 ([r7, r11] : List Int) := Sl.litR (css := [[.int .i64 r7], [.int .i64 r11]]) (l := ([r7, r11] : List Int)) ⟨⟨rfl, rfl, rfl⟩, ⟨rfl, rfl, rfl⟩, tv⟩ hq16 hK17 rfl
 have := hl18.len
 obtain ⟨r19, hx20, hr21⟩ := bd_some hr13
 refine clS C129 rfl rfl rfl rfl (fun w H hH le => w129 hH (hl18.mono (Flat.mono _) (le.at 0 rfl)) hx20) (a1 rfl (on (rt_ ?_)))
 cases hr21
 intro a w hS hA
 refine ret1 hA rfl rfl ?_
 exact ⟨rfl, hS.ext⟩

theorem w85 {M : Prop} {W : World} {H : Hp} (hH : H.le (hp W)) {fv_yield : Value} {yield : Erratum → Option Bool} (h_yield : FnV M Tryz.prog H fv_yield (SF1 (Va encErratum) Value.bool yield)) {q_f0_ : Addr} {ad_f0_ : Option Addr} {cap_f0_ : Nat} {f0_ : List Erratum} (hc_f0_ : CellsAt H q_f0_ [.slice ad_f0_ f0_.length cap_f0_]) (h_f0_ : Sl (Flat encErratum) 6 H ad_f0_ cap_f0_ f0_) {q_f1_ : Addr} (f1_ : Int) (hc_f1_ : CellsAt H q_f1_ [.int .i64 f1_]) {r : Unit} (hr : m85 yield f0_ f1_ = some r) : Calls Tryz.prog 85 [fv_yield, .pointer (some q_f0_), .pointer (some q_f1_)].toArray W (RetS M W (.tuple #[])) := by
 have hh_yield := h_yield
 obtain ⟨f_yield, fi_yield, ca_yield, rfl, _, _⟩ := h_yield
 have := h_f0_.len
 unfold m85 at hr
 refine enterG (M := M) Tryz.func85 rfl Tryz.ntmps85 rfl hH ?_
 refine sq (rg (ld G44 rfl rfl (sS 0 rfl hc_f0_) rfl ?_))
 obtain ⟨t8, hx9, hr10⟩ := bd_some hr
 refine clI C86 Tryz.func86 rfl Tryz.ntmps86 rfl rfl rfl rfl (fun v w => (∃ (ad11 : Option Addr) (cap12 : Nat), v = .slice ad11 t8.length cap12 ∧ St M W H [H] [(1, Own.list ad11 cap12 116 6 encErratum t8)] w)) ?_ ?_
 ·refine sq (rg (a1 rfl (on (sq (sq (rg (m1 rfl (slN U44 rfl rfl (on ?_)))))))))
  refine cb rfl (fun hc15 => ?_) (fun hc15 => ?_)
  ·obtain rfl := Sl.isNil h_f0_ hc15
   have hr16 := (chk_some hx9).2
   refine sq (rg (a1 rfl (on (rt_ (TG.nilRow 1 116 6 (TG.as 1 (z := Own.list none 0 116 6 encErratum ([] : List Erratum)) rfl rfl ?_))))))
   cases hr16
   intro a w hS hA
   refine ret1 hA rfl rfl ?_
   exact ⟨_, rfl, ⟨none, 0, rfl, hS⟩⟩
  ·refine sk (sq (rg (bSL 1 encErratum ([] : List Erratum) (cs := []) T10.E44 rfl rfl rfl rfl rfl rfl fun b17 => (m1 rfl ?_))))
   obtain ⟨hk18, hr19⟩ := chk_some hx9
   have := lenA ([] : List Erratum) f0_
   refine apS 1 (enc := encErratum) (l := ([] : List Erratum)) (m := f0_) T10.E44 rfl rfl rfl rfl rfl rfl h_f0_ 0 rfl (fun _ => rfl) (fun _ => rfl) rfl hk18 fun ad20 cap21 => (a1 rfl (on (rt_ ?_)))
   cases hr19
   intro a w hS hA
   refine ret1 hA rfl rfl ?_
   exact ⟨_, rfl, ⟨ad20, cap21, rfl, hS⟩⟩
 ·rintro a w v hA (⟨ad11, cap12, rfl, hS⟩)
  refine putK rfl hA hS (a1 rfl (on (sq (rg (m1 rfl ?_)))))
  obtain ⟨l22, hx23, hr24⟩ := bd_some hr10
  have hln25 : l22.length = t8.length := (sortO_len hx23)
  refine srtK 1 (enc := encErratum) (V := Va encErratum) (V' := Va encErratum) (fun _ => rfl) (fun _ => rfl) Tryz.srt87 C87 rfl rfl rfl rfl rfl rfl (fun H le => ⟨88, [], [], rfl, C88, fun w_ K_ args_ v_ hK hw hs => by obtain ⟨u0_, u1_, x0_, x1_, r_, rfl, h0_, h1_, hx, rfl⟩ := hs; cases h0_; cases h1_; exact w88  x0_ rfl x1_ rfl  hx⟩) (fun _ _ => rfl) (fun _ _ => rfl) hx23 (on (sq (rg (m1 rfl (TG.len 1 rfl fun _ => (lnL U44 rfl rfl (m1 rfl (on ?_))))))))
  obtain ⟨e47, hl48, hr49⟩ := bd_some hr24
  refine jn (fun a w => ∃ t50, e47 = .inl t50 ∧ St M W H [H] [(1, Own.list ad11 cap12 116 6 encErratum l22)] w ∧ Has [] 28 a []) ?_ ?_
  ·refine bk ?_
   refine lp hl48 (fun s51 a w => St M W H [H] [(1, Own.list ad11 cap12 116 6 encErratum l22)] w ∧ Has [] 28 a [(0, .func (.func f_yield) fi_yield.toArray ca_yield.toArray), (2, .pointer (some q_f1_)), (11, .slice ad11 t8.length cap12), (12, .int .i64 (t8.length : Int)), (13, .int .i64 (s51 : Int))]) ?_ ?_
   ·exact cu ⟨rfl, rfl, rfl, rfl, rfl, tv⟩
   ·rintro j s51 y54 hr52 hz53 a w ⟨hS, hA⟩
    refine TG.ap ?_ hS hA
    unfold m85_1 at hr52
    refine sq (rg (ltI rfl rfl rfl (on (sq ?_))))
    refine ci rfl (fun hc58 => ?_) (fun hc58 => ?_)
    ·have hr59 := if_p hc58 hr52
     refine sk (sq (bk (sq (rg ?_))))
     obtain ⟨x77, hx78, hr79⟩ := bd_some hr59
     refine TG.addr 1 rfl (lt_of0 hx78) fun b80 h => ?_; subst h
     refine iaP U44 Z116 rfl rfl rfl rfl (Nat.lt_of_lt_of_eq (lt_of hx78) hln25) (ldA G116 Z116 rfl rfl (sE 1 rfl (fun _ => rfl) hx78) rfl (va (cs := [.int .i64 x77.number, .int .i64 x77.day, .int .u8 x77.kind, .int .i64 x77.anchor, .string (bs x77.text), .int .i64 x77.new_]) Tryz.zeroValue116 Z116 rfl rfl rfl rfl rfl rfl rfl rfl fun q81 K82 hK83 => (on (sq ?_))))
     obtain ⟨t90, hx91, hr92⟩ := bd_some hr79
     refine jn (fun a w => St M W H [K82, H] [(1, Own.list (some ⟨b80, 0, none⟩) cap12 116 6 encErratum l22)] w ∧ Has [] 28 a [(0, .func (.func f_yield) fi_yield.toArray ca_yield.toArray), (2, .pointer (some q_f1_)), (11, .slice (some ⟨b80, 0, none⟩) t8.length cap12), (12, .int .i64 (t8.length : Int)), (13, .int .i64 (s51 : Int)), (26, .bool t90)]) ?_ ?_
     ·refine rg (fb 1 U116 rfl rfl rfl rfl Z3 (ld G3 rfl rfl (((sS 0 rfl hK83).drop 1).take 1) rfl (ld G3 rfl rfl (sS 1 rfl hc_f1_) rfl (gtI rfl rfl rfl (m1 rfl ?_)))))
      by_cases hb93 : f1_ < x77.day
      ·have hr94 := if_p hb93 hx91
       refine gf' hb93 rfl (gf' hb93 rfl (gf' hb93 rfl (gf' hb93 rfl (pt hb93 rfl rfl (on ?_)))))
       cases hr94
       exact cu ⟨rfl, rfl, rfl, rfl, rfl, rfl, tv⟩
      ·have hr95 := if_n hb93 hx91
       refine gt' hb93 rfl (m1 rfl (gt' hb93 rfl (ldA G116 Z116 rfl rfl (sS 0 rfl hK83) rfl (gt' hb93 rfl ?_))))
       obtain ⟨r96, hx97, hr98⟩ := bd_some hr95
       refine clV (v := .bool r96) hh_yield 1 rfl rfl rfl rfl (fun H le => ⟨_, x77, r96, rfl, rfl, hx97, rfl⟩) (gt' hb93 rfl (nt rfl rfl (pf hb93 rfl rfl (on ?_))))
       cases hr98
       exact cu ⟨rfl, rfl, rfl, rfl, rfl, rfl, tv⟩
     ·rintro a w ⟨hS, hA⟩
      refine TG.ap ?_ hS hA
      refine cb rfl (fun hc102 => ?_) (fun hc102 => ?_)
      ·have hr103 := if_p hc102 hr92
       refine rt_ ?_
       cases hr103
       obtain rfl := Fin.out hz53
       cases hr49
       intro a w hS hA
       refine ret0 hA rfl ?_
       exact ⟨rfl, hS.ext⟩
      ·have hr104 := if_f hc102 hr92
       refine sk (rg (adI rfl rfl rfl (by omega) (m1 rfl (on ?_))))
       cases hr104
       intro a w hS hA
       exact ⟨_, hz53, hS.selH [1] rfl, hA.cut ⟨rfl, rfl, rfl, rfl, rfl, tv⟩⟩
    ·have hr105 := if_n hc58 hr52
     refine xt rfl ?_
     cases hr105
     obtain rfl := Fin.out hz53
     intro a w hS hA
     exact ⟨_, rfl, hS, hA.cut tv⟩
  ·rintro a w ⟨t50, rfl, hS, hA⟩
   refine TG.ap ?_ hS hA
   cases hr49
   intro a w hS hA
   refine ret0 hA rfl ?_
   exact ⟨rfl, hS.ext⟩

theorem w54 {M : Prop} {W : World} {H : Hp} (hH : H.le (hp W)) {cs_v_0 : List Value} (v_0 : Volume) (h_v_0 : (RVolume) H cs_v_0 v_0) {ad_errata : Option Addr} {cap_errata : Nat} {errata : List Erratum} (h_errata : Sl (Flat encErratum) 6 H ad_errata cap_errata errata) {r : Int} (hr : m54 v_0 errata = some r) : Calls Tryz.prog 54 [.agg cs_v_0.toArray, .slice ad_errata errata.length cap_errata].toArray W (RetS M W (.int .i64 r)) := by
 have hh_v_0 := h_v_0
 obtain ⟨ad1, cap2, rfl, hl3⟩ := h_v_0
 have := hl3.len
 have := h_errata.len
 unfold m54 at hr
 refine enterGM (M := M) Tryz.func54 rfl Tryz.ntmps54 rfl hH ?_
 refine sq (rg (bI (cs := [.int .i64 v_0.number, .int .i64 v_0.bound, .int .i64 v_0.height, .int .i64 v_0.width, .slice ad1 v_0.parts.length cap2]) rfl rfl rfl fun q4 K5 hK6 => (al 1 (cs := [.int .i64 0]) Tryz.zeroValue37 rfl rfl fun b7 => (on (sq (rg (mkM 2 keI Value.bool rfl fun b8 => (al 3 (cs := [.map none]) Tryz.zeroValue158 rfl rfl fun b9 => (sto 3 (cs := [.map (some b8)]) Z158 rfl rfl rfl rfl rfl rfl rfl (on (sq ?_)))))))))))
 refine sq (rg (ldA G42 Z42 rfl rfl (sS 0 rfl hK6) rfl ?_))
 obtain ⟨r10, hx11, hr12⟩ := bd_some hr
 refine clK C53 rfl rfl rfl rfl (fun w H hH le => w53 hH v_0 (RVolume.mono _ _ _ _ (le.at 1 rfl) hh_v_0) hx11) ?_
 rintro v_ K13 ⟨ad14, cap15, rfl, hl16⟩
 have := hl16.len
 refine lnL U36 rfl rfl (m1 rfl (on ?_))
 obtain ⟨e47, hl48, hr49⟩ := bd_some hr12
 refine jn (fun a w => St M W H [K13, K5, H] [(3, cel b9 158 [.map (some b8)]), (2, Own.map' keI Value.bool b8 e47), (1, cel b7 37 [.int .i64 0])] w ∧ Has [] 35 a [(1, .slice ad_errata errata.length cap_errata), (4, .pointer (some (⟨b7, 0, none⟩))), (5, .pointer (some (⟨b9, 0, none⟩)))]) ?_ ?_
 ·refine bk ?_
  refine lp hl48 (fun s50 a w => St M W H [K13, K5, H] [(3, cel b9 158 [.map (some b8)]), (2, Own.map' keI Value.bool b8 s50.2), (1, cel b7 37 [.int .i64 0])] w ∧ Has [] 35 a [(1, .slice ad_errata errata.length cap_errata), (4, .pointer (some (⟨b7, 0, none⟩))), (5, .pointer (some (⟨b9, 0, none⟩))), (11, .slice ad14 r10.length cap15), (12, .int .i64 (r10.length : Int)), (13, .int .i64 (s50.1 : Int))]) ?_ ?_
  ·exact cu ⟨rfl, rfl, rfl, rfl, rfl, rfl, tv⟩
  ·rintro j s50 y53 hr51 hz52 a w ⟨hS, hA⟩
   refine TG.ap ?_ hS hA
   unfold m54_1 at hr51
   refine sq (rg (ltI rfl rfl rfl (on (sq ?_))))
   refine ci rfl (fun hc57 => ?_) (fun hc57 => ?_)
   ·have hr58 := if_p hc57 hr51
    refine sk (sq (bk (sq (rg ?_))))
    obtain ⟨x70, hx71, hr72⟩ := bd_some hr58
    obtain ⟨p73, rfl⟩ := hl16.adr hx71
    obtain ⟨cs74, hcs75, hq76, hr77⟩ := hl16.at hx71
    obtain rfl := hr77
    refine iaP U36 Z52 rfl rfl rfl rfl (lt_of hx71) (ldA G52 Z52 rfl rfl (sS 0 rfl hq76) rfl (va (cs := [.int .i64 x70.anchor, .string (bs x70.text)]) Tryz.zeroValue52 Z52 rfl rfl rfl rfl rfl rfl rfl rfl fun q78 K79 hK80 => (on (rg (ld G158 rfl rfl (sO 3 rfl) rfl (fb 0 U52 rfl rfl rfl rfl Z3 (ld G3 rfl rfl ((sS 0 rfl hK80).take 1) rfl (mpU 2 (ke := keI) (enc := Value.bool) x70.anchor true U158 U3 rfl rfl rfl rfl (on (rg (adI rfl rfl rfl (by omega) ?_)))))))))))
    refine m1 rfl (on ?_)
    cases hr72
    intro a w hS hA
    exact ⟨_, hz52, hS.selH [1, 2, 3] rfl, hA.cut ⟨rfl, rfl, rfl, rfl, rfl, rfl, tv⟩⟩
   ·have hr81 := if_n hc57 hr51
    refine xt rfl ?_
    cases hr81
    obtain rfl := Fin.out hz52
    exact cu ⟨rfl, rfl, rfl, tv⟩
 ·rintro a w ⟨hS, hA⟩
  refine TG.ap ?_ hS hA
  refine sq (sq (rg (m1 rfl (clT C55 Tryz.func55 rfl Tryz.ntmps55 rfl rfl rfl rfl (sq (rg (bI (cs := [.slice ad_errata errata.length cap_errata]) rfl rfl rfl fun q88 K89 hK90 => (bI (cs := [.int .i64 99999]) rfl rfl rfl fun q91 K92 hK93 => (a1 rfl (on (sq ?_)))))))))))
  refine rg (fn rfl rfl rfl (a1 rfl (on (rt_ ?_))))
  intro a w hS hA
  refine ret1 hA rfl rfl ?_
  refine ⟨_, rfl, fun a hA => ?_⟩
  refine putK rfl hA hS (on (bk ?_))
  obtain ⟨t261, hx262, hr263⟩ := bd_some hr49
  refine rfO 4 5 C85 Tryz.func85 rfl Tryz.ntmps85 rfl rfl (fun l180 dB181 O183 w => (∃ (t264 : (List (Int × Bool))), t261 = (.inl t264) ∧ St M W H [K92, K89, K13, K5, H] [(4, Own.blk l180 (O183 .ready none)), (5, Own.blk dB181 (.deferred (some []))), (3, cel b9 158 [.map (some b8)]), (2, Own.map' keI Value.bool b8 t264), (1, cel b7 37 [.int .i64 0])] w) ∨ (∃ (t265 : Nat × (List (Int × Bool))), t261 = (.inr t265) ∧ St M W H [K92, K89, K13, K5, H] [(4, Own.blk l180 (O183 .done (some .ret))), (5, Own.blk dB181 (.deferred (some []))), (3, cel b9 158 [.map (some b8)]), (2, Own.map' keI Value.bool b8 t265.2), (1, cel b7 37 [.int .i64 (t265.1 : Int)])] w)) ?_ ?_
  ·intro l180 dB181 O183 tm182 hT184 hO185
   refine sq (rg (ld G44 rfl rfl (sS 1 rfl hK90) rfl ?_))
   obtain ⟨t273, hx274, hr275⟩ := bd_some hx262
   refine clI C86 Tryz.func86 rfl Tryz.ntmps86 rfl rfl rfl rfl (fun v w => (∃ (ad276 : Option Addr) (cap277 : Nat), v = .slice ad276 t273.length cap277 ∧ St M W H [K92, K89, K13, K5, H] [(6, Own.list ad276 cap277 116 6 encErratum t273), (4, Own.blk l180 (O183 .ready none)), (5, Own.blk dB181 (.deferred (some []))), (3, cel b9 158 [.map (some b8)]), (2, Own.map' keI Value.bool b8 e47), (1, cel b7 37 [.int .i64 0])] w)) ?_ ?_
   ·refine sq (rg (a1 rfl (on (sq (sq (rg (m1 rfl (slN U44 rfl rfl (on ?_)))))))))
    refine cb rfl (fun hc280 => ?_) (fun hc280 => ?_)
    ·obtain rfl := Sl.isNil h_errata hc280
     have hr281 := (chk_some hx274).2
     refine sq (rg (a1 rfl (on (rt_ (TG.nilRow 6 116 6 (TG.as 6 (z := Own.list none 0 116 6 encErratum ([] : List Erratum)) rfl rfl ?_))))))
     cases hr281
     intro a w hS hA
     refine ret1 hA rfl rfl ?_
     exact ⟨_, rfl, ⟨none, 0, rfl, hS⟩⟩
    ·refine sk (sq (rg (bSL 6 encErratum ([] : List Erratum) (cs := []) T10.E44 rfl rfl rfl rfl rfl rfl fun b282 => (m1 rfl ?_))))
     obtain ⟨hk283, hr284⟩ := chk_some hx274
     have := lenA ([] : List Erratum) errata
     refine apS 6 (enc := encErratum) (l := ([] : List Erratum)) (m := errata) T10.E44 rfl rfl rfl rfl rfl rfl h_errata 4 rfl (fun _ => rfl) (fun _ => rfl) rfl hk283 fun ad285 cap286 => (a1 rfl (on (rt_ ?_)))
     cases hr284
     intro a w hS hA
     refine ret1 hA rfl rfl ?_
     exact ⟨_, rfl, ⟨ad285, cap286, rfl, hS⟩⟩
   ·rintro a w v hA (⟨ad276, cap277, rfl, hS⟩)
    refine putK rfl hA hS (a1 rfl (on (sq (rg (m1 rfl ?_)))))
    obtain ⟨l287, hx288, hr289⟩ := bd_some hr275
    have hln290 : l287.length = t273.length := (sortO_len hx288)
    refine srtK 6 (enc := encErratum) (V := Va encErratum) (V' := Va encErratum) (fun _ => rfl) (fun _ => rfl) Tryz.srt87 C87 rfl rfl rfl rfl rfl rfl (fun H le => ⟨88, [], [], rfl, C88, fun w_ K_ args_ v_ hK hw hs => by obtain ⟨u0_, u1_, x0_, x1_, r_, rfl, h0_, h1_, hx, rfl⟩ := hs; cases h0_; cases h1_; exact w88  x0_ rfl x1_ rfl  hx⟩) (fun _ _ => rfl) (fun _ _ => rfl) hx288 (on (sq (rg (m1 rfl (TG.len 6 rfl fun _ => (lnL U44 rfl rfl (m1 rfl (on ?_))))))))
    obtain ⟨e349, hl350, hr351⟩ := bd_some hr289
    refine jn (fun a w => ∃ t352, e349 = .inl t352 ∧ St M W H [K92, K89, K13, K5, H] [(6, Own.list ad276 cap277 116 6 encErratum l287), (4, Own.blk l180 (O183 .ready none)), (5, Own.blk dB181 (.deferred (some []))), (3, cel b9 158 [.map (some b8)]), (2, Own.map' keI Value.bool b8 t352), (1, cel b7 37 [.int .i64 0])] w ∧ Has [] 28 a []) ?_ ?_
    ·refine bk ?_
     refine lp hl350 (fun s353 a w => St M W H [K92, K89, K13, K5, H] [(6, Own.list ad276 cap277 116 6 encErratum l287), (4, Own.blk l180 (O183 .ready none)), (5, Own.blk dB181 (.deferred (some []))), (3, cel b9 158 [.map (some b8)]), (2, Own.map' keI Value.bool b8 s353.2), (1, cel b7 37 [.int .i64 0])] w ∧ Has [] 28 a [(0, .func (.yield l180) #[] #[]), (2, .pointer (some q91)), (11, .slice ad276 t273.length cap277), (12, .int .i64 (t273.length : Int)), (13, .int .i64 (s353.1 : Int))]) ?_ ?_
     ·exact cu ⟨rfl, rfl, rfl, rfl, rfl, tv⟩
     ·rintro j s353 y356 hr354 hz355 a w ⟨hS, hA⟩
      refine TG.ap ?_ hS hA
      unfold m54_2 at hr354
      refine sq (rg (ltI rfl rfl rfl (on (sq ?_))))
      refine ci rfl (fun hc360 => ?_) (fun hc360 => ?_)
      ·have hr361 := if_p hc360 hr354
       refine sk (sq (bk (sq (rg ?_))))
       obtain ⟨x387, hx388, hr389⟩ := bd_some hr361
       refine TG.addr 6 rfl (lt_of0 hx388) fun b390 h => ?_; subst h
       refine iaP U44 Z116 rfl rfl rfl rfl (Nat.lt_of_lt_of_eq (lt_of hx388) hln290) (ldA G116 Z116 rfl rfl (sE 6 rfl (fun _ => rfl) hx388) rfl (va (cs := [.int .i64 x387.number, .int .i64 x387.day, .int .u8 x387.kind, .int .i64 x387.anchor, .string (bs x387.text), .int .i64 x387.new_]) Tryz.zeroValue116 Z116 rfl rfl rfl rfl rfl rfl rfl rfl fun q391 K392 hK393 => (on (sq (rg (fb 1 U116 rfl rfl rfl rfl Z3 (ld G3 rfl rfl (((sS 0 rfl hK393).drop 1).take 1) rfl (ld G3 rfl rfl (sS 1 rfl hK93) rfl (gtI rfl rfl rfl (m1 rfl ?_))))))))))
       by_cases hb412 : 99999 < x387.day
       ·have hr413 := if_p hb412 hr389
        refine gf' hb412 rfl (gf' hb412 rfl (gf' hb412 rfl (gf' hb412 rfl (pt hb412 rfl rfl (on (cT rfl rfl (rt_ ?_)))))))
        cases hr413
        obtain rfl := Fin.out hz355
        refine TG.del 6 ?_
        cases hr351
        intro a w hS hA
        refine ret0 hA rfl ?_
        exact ⟨_, rfl, .inl ⟨_, rfl, hS.selH [1, 2, 3, 4, 5] rfl⟩⟩
       ·have hr414 := if_n hb412 hr389
        refine gt' hb412 rfl (m1 rfl (gt' hb412 rfl (ldA G116 Z116 rfl rfl (sS 0 rfl hK393) rfl (gt' hb412 rfl ?_))))
        obtain ⟨t425, hx426, hr427⟩ := bd_some hr414
        refine yl 4 [] (L1 := (23, .agg [.int .i64 x387.number, .int .i64 x387.day, .int .u8 x387.kind, .int .i64 x387.anchor, .string (bs x387.text), .int .i64 x387.new_].toArray) :: _) rfl rfl rfl hT184 hO185 rfl rfl rfl (fun v w => (∃ (t428 : Nat), t425 = (.inl t428) ∧ v = .bool false ∧ St M W H [K392, K92, K89, K13, K5, H] [(6, Own.list (some ⟨b390, 0, none⟩) cap277 116 6 encErratum l287), (4, Own.blk l180 (O183 .done (some .ret))), (5, Own.blk dB181 (.deferred (some []))), (3, cel b9 158 [.map (some b8)]), (2, Own.map' keI Value.bool b8 s353.2), (1, cel b7 37 [.int .i64 (t428 : Int)])] w) ∨ (∃ (t429 : (List (Int × Bool))), t425 = (.inr t429) ∧ v = .bool true ∧ St M W H [K392, K92, K89, K13, K5, H] [(6, Own.list (some ⟨b390, 0, none⟩) cap277 116 6 encErratum l287), (4, Own.blk l180 (O183 .ready none)), (5, Own.blk dB181 (.deferred (some []))), (3, cel b9 158 [.map (some b8)]), (2, Own.map' keI Value.bool b8 t429), (1, cel b7 37 [.int .i64 0])] w)) ?_ ?_
        ·refine rg (va (cs := [.int .i64 x387.number, .int .i64 x387.day, .int .u8 x387.kind, .int .i64 x387.anchor, .string (bs x387.text), .int .i64 x387.new_]) Tryz.zeroValue116 Z116 rfl rfl rfl rfl rfl rfl rfl rfl fun q430 K431 hK432 => (on (bR 4 hO185 rfl (bk (sq (sq (rg (ld G158 rfl rfl (sO 3 rfl) rfl (fb 3 U116 rfl rfl rfl rfl Z3 (ld G3 rfl rfl (((sS 0 rfl hK432).drop 3).take 1) rfl (lk1 (ke := keI) (enc := Value.bool) x387.anchor (z0 := false) U158 U3 Tryz.zeroValue4 rfl rfl rfl rfl (mO 2 rfl) ?_)))))))))))
         refine nt rfl rfl (on ?_)
         refine cb rfl (fun hc443 => ?_) (fun hc443 => ?_)
         ·replace hc443 := nbt hc443
          have hr444 := if_f hc443 hx426
          refine sq (rg (sto 1 (cs := [.int .i64 7]) Z37 rfl rfl rfl rfl rfl rfl rfl (on (rt_ ?_))))
          cases hr444
          refine eR 4 (some .ret) hO185 rfl fun w hS => ?_
          exact .inl ⟨_, rfl, rfl, hS.selH [1, 2, 3, 4, 5, 6] rfl⟩
         ·replace hc443 := nbf hc443
          have hr445 := if_p hc443 hx426
          refine sk (sq (rg (fb 2 U116 rfl rfl rfl rfl Z5 (ld G5 rfl rfl (((sS 0 rfl hK432).drop 2).take 1) rfl (eqI rfl rfl rfl (on ?_))))))
          obtain ⟨t449, hx450, hr451⟩ := bd_some hr445
          refine jn (fun a w => St M W H [K431, K392, K92, K89, K13, K5, H] [(6, Own.list (some ⟨b390, 0, none⟩) cap277 116 6 encErratum l287), (4, Own.blk l180 (O183 .busy none)), (5, Own.blk dB181 (.deferred (some []))), (3, cel b9 158 [.map (some b8)]), (2, Own.map' keI Value.bool b8 t449), (1, cel b7 37 [.int .i64 0])] w ∧ Has [] 35 a []) ?_ ?_
          ·refine ci rfl (fun hc452 => ?_) (fun hc452 => ?_)
           ·have hr453 := if_p hc452 hx450
            refine rg (ld G158 rfl rfl (sO 3 rfl) rfl (fb 5 U116 rfl rfl rfl rfl Z3 (ld G3 rfl rfl ((sS 0 rfl hK432).drop 5) rfl (mpU 2 (ke := keI) (enc := Value.bool) x387.new_ true U158 U3 rfl rfl rfl rfl (on ?_)))))
            cases hr453
            exact cu tv
           ·have hr454 := if_n hc452 hx450
            refine sk ?_
            cases hr454
            exact cu tv
          ·rintro a w ⟨hS, hA⟩
           refine TG.ap ?_ hS hA
           cases hr451
           refine eR 4 none hO185 rfl fun w hS => ?_
           exact .inr (⟨_, rfl, rfl, hS.selH [1, 2, 3, 4, 5, 6] rfl⟩)
        ·rintro a w v hA (⟨t428, rfl, rfl, hS⟩ | ⟨t429, rfl, rfl, hS⟩)
         ·refine putK rfl hA hS (gt' hb412 rfl (nt rfl rfl (pf hb412 rfl rfl (on (cT rfl rfl (rt_ ?_))))))
          cases hr427
          obtain rfl := Fin.out hz355
          refine TG.del 6 ?_
          cases hr351
          intro a w hS hA
          refine ret0 hA rfl ?_
          exact ⟨_, rfl, .inr (⟨_, rfl, hS.selH [1, 2, 3, 4, 5] rfl⟩)⟩
         ·refine putK rfl hA hS (gt' hb412 rfl (nt rfl rfl (pf hb412 rfl rfl (on (cF rfl rfl (sk (rg (adI rfl rfl rfl (by omega) (m1 rfl (on ?_))))))))))
          cases hr427
          intro a w hS hA
          exact ⟨_, hz355, hS.selH [1, 2, 3, 4, 5] rfl, hA.cut ⟨rfl, rfl, rfl, rfl, rfl, tv⟩⟩
      ·have hr455 := if_n hc360 hr354
       refine xt rfl ?_
       cases hr455
       obtain rfl := Fin.out hz355
       intro a w hS hA
       exact ⟨_, rfl, hS, hA.cut tv⟩
    ·rintro a w ⟨t352, rfl, hS, hA⟩
     refine TG.ap ?_ hS hA
     refine TG.del 6 ?_
     cases hr351
     intro a w hS hA
     refine ret0 hA rfl ?_
     exact ⟨_, rfl, .inl ⟨_, rfl, hS⟩⟩
  ·rintro l180 dB181 O183 tm182 a w hO185 hA (⟨t264, rfl, hS⟩ | ⟨t265, rfl, hS⟩)
   ·refine TG.ap ?_ hS hA
    refine elN 4 hO185 rfl (sq (rg (sto 1 (cs := [.int .i64 0]) Z37 rfl rfl rfl rfl rfl rfl rfl (on (rt_ ?_)))))
    cases hr263
    refine rtM (rtT 5 rfl (rt0 ?_))
    intro a w hS hA
    refine rc1 hA rfl (ResAt.cell rfl (loads1 G37 (cell_at (hS.get (t := 1) rfl)) rfl)) ?_
    exact ⟨rfl, hS.ext⟩
   ·refine TG.ap ?_ hS hA
    refine elC 4 hO185 rfl (rt_ ?_)
    cases hr263
    refine rtM (rtT 5 rfl (rt0 ?_))
    intro a w hS hA
    refine rc1 hA rfl (ResAt.cell rfl (loads1 G37 (cell_at (hS.get (t := 1) rfl)) rfl)) ?_
    exact ⟨rfl, hS.ext⟩

theorem w33 {M : Prop} {W : World} {H : Hp} (hH : H.le (hp W)) {cs_v_0 : List Value} (v_0 : Volume) (h_v_0 : (RVolume) H cs_v_0 v_0) {ad_errata : Option Addr} {cap_errata : Nat} {errata : List Erratum} (h_errata : Sl (Flat encErratum) 6 H ad_errata cap_errata errata) {r : Int} (hr : m33 v_0 errata = some r) : Calls Tryz.prog 33 [.agg cs_v_0.toArray, .slice ad_errata errata.length cap_errata].toArray W (RetS M W (.int .i64 r)) := by
 have hh_v_0 := h_v_0
 obtain ⟨ad1, cap2, rfl, hl3⟩ := h_v_0
 have := hl3.len
 have := h_errata.len
 unfold m33 at hr
 refine enterG (M := M) Tryz.func33 rfl Tryz.ntmps33 rfl hH ?_
 refine sq (rg (bI (cs := [.int .i64 v_0.number, .int .i64 v_0.bound, .int .i64 v_0.height, .int .i64 v_0.width, .slice ad1 v_0.parts.length cap2]) rfl rfl rfl fun q4 K5 hK6 => (a1 rfl (on (sq (sq (rg (ldA G42 Z42 rfl rfl (sS 0 rfl hK6) rfl ?_))))))))
 obtain ⟨r7, hx8, hr9⟩ := bd_some hr
 refine clS C50 rfl rfl rfl rfl (fun w H hH le => w50 hH v_0 (RVolume.mono _ _ _ _ (le.at 1 rfl) hh_v_0) hx8) (a1 rfl (on (sq (rg (m1 rfl (neI rfl rfl rfl (on ?_)))))))
 refine ci rfl (fun hc13 => ?_) (fun hc13 => ?_)
 ·have hr14 := if_p hc13 hr9
  refine sq (rg (m1 rfl (a1 rfl (on (rt_ ?_)))))
  cases hr14
  intro a w hS hA
  refine ret1 hA rfl rfl ?_
  exact ⟨rfl, hS.ext⟩
 ·have hr15 := if_n hc13 hr9
  refine sk (sq (bk (sq (rg (m1 rfl (lnL U44 rfl rfl (gtI rfl rfl rfl (a1 rfl (on ?_)))))))))
  refine ci rfl (fun hc36 => ?_) (fun hc36 => ?_)
  ·have hr37 := if_p hc36 hr15
   refine sq (rg (a1 rfl (on (rt_ ?_))))
   cases hr37
   intro a w hS hA
   refine ret1 hA rfl rfl ?_
   exact ⟨rfl, hS.ext⟩
  ·have hr38 := if_n hc36 hr15
   refine sq (rg (m1 rfl ?_))
   obtain ⟨r40, hx41, hr42⟩ := bd_some hr38
   refine clS (v := .bool r40) C51 rfl rfl rfl rfl (fun w H hH le => by
     have hf39 : FnV M Tryz.prog H (.func (.func 52) [].toArray [].toArray) (SF1 (Va encErratum) Value.bool (m52)) := ⟨52, [], [], rfl, C52, fun w_ K_ args_ v_ hK hw hs => by obtain ⟨u0_, x0_, r_, rfl, h0_, hx, rfl⟩ := hs; cases h0_; exact w52  x0_ rfl  hx⟩
     exact w51 hH (h_errata.mono (Flat.mono _) (le.at 1 rfl)) (right := (m52)) hf39 hx41) ?_
   refine nt rfl rfl (a1 rfl (on ?_))
   refine cb rfl (fun hc46 => ?_) (fun hc46 => ?_)
   ·replace hc46 := nbt hc46
    have hr47 := if_f hc46 hr42
    refine sq (rg (a1 rfl (on (rt_ ?_))))
    cases hr47
    intro a w hS hA
    refine ret1 hA rfl rfl ?_
    exact ⟨rfl, hS.ext⟩
   ·replace hc46 := nbf hc46
    have hr48 := if_p hc46 hr42
    refine sk (sq (rg (mkM 1 keI Value.bool rfl fun b49 => (mkM 2 keI Value.bool rfl fun b50 => (a1 rfl (a1 rfl (on (sq (sq (rg (ldA G42 Z42 rfl rfl (sS 0 rfl hK6) rfl ?_)))))))))))
    obtain ⟨r51, hx52, hr53⟩ := bd_some hr48
    refine clK C53 rfl rfl rfl rfl (fun w H hH le => w53 hH v_0 (RVolume.mono _ _ _ _ (le.at 1 rfl) hh_v_0) hx52) ?_
    rintro v_ K54 ⟨ad55, cap56, rfl, hl57⟩
    have := hl57.len
    refine lnL U36 rfl rfl (m1 rfl (on ?_))
    obtain ⟨e88, hl89, hr90⟩ := bd_some hr53
    refine jn (fun a w => St M W H [K54, K5, H] [(2, Own.map' keI Value.bool b50 ([] : List (Int × Bool))), (1, Own.map' keI Value.bool b49 e88)] w ∧ Has [] 72 a [(1, .slice ad_errata errata.length cap_errata), (2, .pointer (some q4)), (6, .map (some b49)), (7, .map (some b50))]) ?_ ?_
    ·refine bk ?_
     refine lp hl89 (fun s91 a w => St M W H [K54, K5, H] [(2, Own.map' keI Value.bool b50 ([] : List (Int × Bool))), (1, Own.map' keI Value.bool b49 s91.2)] w ∧ Has [] 72 a [(1, .slice ad_errata errata.length cap_errata), (2, .pointer (some q4)), (6, .map (some b49)), (7, .map (some b50)), (28, .slice ad55 r51.length cap56), (29, .int .i64 (r51.length : Int)), (30, .int .i64 (s91.1 : Int))]) ?_ ?_
     ·exact cu ⟨rfl, rfl, rfl, rfl, rfl, rfl, rfl, tv⟩
     ·rintro j s91 y94 hr92 hz93 a w ⟨hS, hA⟩
      refine TG.ap ?_ hS hA
      unfold m33_1 at hr92
      refine sq (rg (ltI rfl rfl rfl (on (sq ?_))))
      refine ci rfl (fun hc98 => ?_) (fun hc98 => ?_)
      ·have hr99 := if_p hc98 hr92
       refine sk (sq (bk (sq (rg ?_))))
       obtain ⟨x111, hx112, hr113⟩ := bd_some hr99
       obtain ⟨p114, rfl⟩ := hl57.adr hx112
       obtain ⟨cs115, hcs116, hq117, hr118⟩ := hl57.at hx112
       obtain rfl := hr118
       refine iaP U36 Z52 rfl rfl rfl rfl (lt_of hx112) (ldA G52 Z52 rfl rfl (sS 0 rfl hq117) rfl (va (cs := [.int .i64 x111.anchor, .string (bs x111.text)]) Tryz.zeroValue52 Z52 rfl rfl rfl rfl rfl rfl rfl rfl fun q119 K120 hK121 => (on (rg (m1 rfl (fb 0 U52 rfl rfl rfl rfl Z3 (ld G3 rfl rfl ((sS 0 rfl hK121).take 1) rfl (mpU 1 (ke := keI) (enc := Value.bool) x111.anchor true U158 U3 rfl rfl rfl rfl (on (rg (adI rfl rfl rfl (by omega) ?_)))))))))))
       refine m1 rfl (on ?_)
       cases hr113
       intro a w hS hA
       exact ⟨_, hz93, hS.selH [1, 2, 3] rfl, hA.cut ⟨rfl, rfl, rfl, rfl, rfl, rfl, rfl, tv⟩⟩
      ·have hr122 := if_n hc98 hr92
       refine xt rfl ?_
       cases hr122
       obtain rfl := Fin.out hz93
       exact cu ⟨rfl, rfl, rfl, rfl, tv⟩
    ·rintro a w ⟨hS, hA⟩
     refine TG.ap ?_ hS hA
     refine sq (sq (rg (m1 rfl (lnL U44 rfl rfl (m1 rfl (on ?_))))))
     obtain ⟨e181, hl182, hr183⟩ := bd_some hr90
     refine jn (fun a w => ∃ t184, e181 = .inl t184 ∧ St M W H [K54, K5, H] [(2, Own.map' keI Value.bool b50 t184.1), (1, Own.map' keI Value.bool b49 t184.2)] w ∧ Has [] 72 a [(1, .slice ad_errata errata.length cap_errata), (2, .pointer (some q4))]) ?_ ?_
     ·refine bk ?_
      refine lp hl182 (fun s185 a w => St M W H [K54, K5, H] [(2, Own.map' keI Value.bool b50 s185.2.1), (1, Own.map' keI Value.bool b49 s185.2.2)] w ∧ Has [] 72 a [(1, .slice ad_errata errata.length cap_errata), (2, .pointer (some q4)), (6, .map (some b49)), (7, .map (some b50)), (38, .slice ad_errata errata.length cap_errata), (39, .int .i64 (errata.length : Int)), (40, .int .i64 (s185.1 : Int))]) ?_ ?_
      ·exact cu ⟨rfl, rfl, rfl, rfl, rfl, rfl, rfl, tv⟩
      ·rintro j s185 y188 hr186 hz187 a w ⟨hS, hA⟩
       refine TG.ap ?_ hS hA
       unfold m33_2 at hr186
       refine sq (rg (ltI rfl rfl rfl (on (sq ?_))))
       refine ci rfl (fun hc192 => ?_) (fun hc192 => ?_)
       ·have hr193 := if_p hc192 hr186
        refine sk (sq (bk (sq (rg ?_))))
        obtain ⟨x219, hx220, hr221⟩ := bd_some hr193
        obtain ⟨p222, rfl⟩ := h_errata.adr hx220
        obtain ⟨cs223, hcs224, hq225, hr226⟩ := h_errata.at hx220
        obtain rfl := hr226
        refine iaP U44 Z116 rfl rfl rfl rfl (lt_of hx220) (ldA G116 Z116 rfl rfl (sS 2 rfl hq225) rfl (va (cs := [.int .i64 x219.number, .int .i64 x219.day, .int .u8 x219.kind, .int .i64 x219.anchor, .string (bs x219.text), .int .i64 x219.new_]) Tryz.zeroValue116 Z116 rfl rfl rfl rfl rfl rfl rfl rfl fun q227 K228 hK229 => (on (sq (sq ?_)))))
        obtain ⟨t236, hx237, hr238⟩ := bd_some hr221
        refine jn (fun a w => St M W H [K228, K54, K5, H] [(2, Own.map' keI Value.bool b50 s185.2.1), (1, Own.map' keI Value.bool b49 s185.2.2)] w ∧ Has [] 72 a [(1, .slice (some p222) errata.length cap_errata), (2, .pointer (some q4)), (6, .map (some b49)), (7, .map (some b50)), (11, .pointer (some q227)), (38, .slice (some p222) errata.length cap_errata), (39, .int .i64 (errata.length : Int)), (40, .int .i64 (s185.1 : Int)), (58, .bool t236)]) ?_ ?_
        ·refine rg (m1 rfl (fb 0 U116 rfl rfl rfl rfl Z3 (ld G3 rfl rfl ((sS 0 rfl hK229).take 1) rfl (lk1 (ke := keI) (enc := Value.bool) x219.number (z0 := false) U158 U3 Tryz.zeroValue4 rfl rfl rfl rfl (mO 2 rfl) (m1 rfl ?_)))))
         rcases Bool.eq_false_or_eq_true ((lkp s185.2.1 x219.number).getD false) with hb239 | hb239
         ·have hr240 := if_p hb239 hx237
          refine gF rfl rfl (hb239) rfl (gF rfl rfl (hb239) rfl (gF rfl rfl (hb239) rfl (gF rfl rfl (hb239) rfl (gU rfl rfl rfl (gU rfl rfl rfl (gU rfl rfl rfl (gU rfl rfl rfl (gF rfl rfl (hb239) rfl (pT rfl rfl (hb239) rfl (on ?_))))))))))
          cases hr240
          exact cu ⟨rfl, rfl, rfl, rfl, rfl, rfl, rfl, rfl, rfl, tv⟩
         ·have hr241 := if_f hb239 hx237
          refine gN rfl rfl (hb239) (fb 2 U116 rfl rfl rfl rfl Z5 (gN rfl rfl (hb239) (ld G5 rfl rfl (((sS 0 rfl hK229).drop 2).take 1) rfl (gN rfl rfl (hb239) (eqI rfl rfl rfl (gN rfl rfl (hb239) (m1 rfl ?_)))))))
          by_cases hb242 : x219.kind = 2
          ·have hr243 := if_p hb242 hr241
           refine gt hb242 rfl (m1 rfl (gt hb242 rfl (fb 5 U116 rfl rfl rfl rfl Z3 (gt hb242 rfl (ld G3 rfl rfl ((sS 0 rfl hK229).drop 5) rfl (gt hb242 rfl (lk1 (ke := keI) (enc := Value.bool) x219.new_ (z0 := false) U158 U3 Tryz.zeroValue4 rfl rfl rfl rfl (mO 1 rfl) (gN rfl rfl (hb239) (pt hb242 rfl rfl (pF rfl rfl (hb239) rfl (on ?_)))))))))))
           cases hr243
           exact cu ⟨rfl, rfl, rfl, rfl, rfl, rfl, rfl, rfl, rfl, tv⟩
          ·have hr244 := if_n hb242 hr241
           refine gf hb242 rfl (gf hb242 rfl (gf hb242 rfl (gf hb242 rfl (gN rfl rfl (hb239) (pf hb242 rfl rfl (pF rfl rfl (hb239) rfl (on ?_)))))))
           cases hr244
           exact cu ⟨rfl, rfl, rfl, rfl, rfl, rfl, rfl, rfl, rfl, tv⟩
        ·rintro a w ⟨hS, hA⟩
         refine TG.ap ?_ hS hA
         refine cb rfl (fun hc248 => ?_) (fun hc248 => ?_)
         ·have hr249 := if_p hc248 hr238
          refine sq (rg (a1 rfl (on (rt_ ?_))))
          cases hr249
          obtain rfl := Fin.out hz187
          cases hr183
          intro a w hS hA
          refine ret1 hA rfl rfl ?_
          exact ⟨rfl, hS.ext⟩
         ·have hr250 := if_f hc248 hr238
          refine sk (sq (rg (m1 rfl (fb 0 U116 rfl rfl rfl rfl Z3 (ld G3 rfl rfl ((sS 0 rfl hK229).take 1) rfl (mpU 2 (ke := keI) (enc := Value.bool) x219.number true U158 U3 rfl rfl rfl rfl (on (sq (rg (fb 2 U116 rfl rfl rfl rfl Z5 (ld G5 rfl rfl (((sS 0 rfl hK229).drop 2).take 1) rfl ?_)))))))))))
          refine eqI rfl rfl rfl (on ?_)
          obtain ⟨t254, hx255, hr256⟩ := bd_some hr250
          refine jn (fun a w => St M W H [K228, K54, K5, H] [(2, Own.map' keI Value.bool b50 (put s185.2.1 x219.number true)), (1, Own.map' keI Value.bool b49 t254)] w ∧ Has [] 72 a [(1, .slice (some p222) errata.length cap_errata), (2, .pointer (some q4)), (6, .map (some b49)), (7, .map (some b50)), (38, .slice (some p222) errata.length cap_errata), (39, .int .i64 (errata.length : Int)), (40, .int .i64 (s185.1 : Int))]) ?_ ?_
          ·refine ci rfl (fun hc257 => ?_) (fun hc257 => ?_)
           ·have hr258 := if_p hc257 hx255
            refine rg (m1 rfl (fb 5 U116 rfl rfl rfl rfl Z3 (ld G3 rfl rfl ((sS 0 rfl hK229).drop 5) rfl (mpU 1 (ke := keI) (enc := Value.bool) x219.new_ true U158 U3 rfl rfl rfl rfl (on ?_)))))
            cases hr258
            exact cu ⟨rfl, rfl, rfl, rfl, rfl, rfl, rfl, tv⟩
           ·have hr259 := if_n hc257 hx255
            refine sk ?_
            cases hr259
            exact cu ⟨rfl, rfl, rfl, rfl, rfl, rfl, rfl, tv⟩
          ·rintro a w ⟨hS, hA⟩
           refine TG.ap ?_ hS hA
           refine rg (adI rfl rfl rfl (by omega) (m1 rfl (on ?_)))
           cases hr256
           intro a w hS hA
           exact ⟨_, hz187, hS.selH [1, 2, 3] rfl, hA.cut ⟨rfl, rfl, rfl, rfl, rfl, rfl, rfl, tv⟩⟩
       ·have hr260 := if_n hc192 hr186
        refine xt rfl ?_
        cases hr260
        obtain rfl := Fin.out hz187
        intro a w hS hA
        exact ⟨_, rfl, hS, hA.cut ⟨rfl, rfl, tv⟩⟩
     ·rintro a w ⟨t184, rfl, hS, hA⟩
      refine TG.ap ?_ hS hA
      refine sq (rg (ldA G42 Z42 rfl rfl (sS 1 rfl hK6) rfl (m1 rfl ?_)))
      obtain ⟨r261, hx262, hr263⟩ := bd_some hr183
      refine clS C54 rfl rfl rfl rfl (fun w H hH le => w54 hH v_0 (RVolume.mono _ _ _ _ (le.at 2 rfl) hh_v_0) (h_errata.mono (Flat.mono _) (le.at 2 rfl)) hx262) (a1 rfl (on (rt_ ?_)))
      cases hr263
      intro a w hS hA
      refine ret1 hA rfl rfl ?_
      exact ⟨rfl, hS.ext⟩

theorem w56 {M : Prop} {W : World} {H : Hp} (hH : H.le (hp W)) {q_b_0 : Addr} {cs_b_0 : List Value} (b_0 : edition) (hc_b_0 : CellsAt H q_b_0 cs_b_0) (h_b_0 : (Redition) H cs_b_0 b_0) (anchor : Int) {r : Int × Int × Bool} (hr : m56 b_0 anchor = some r) : Calls Tryz.prog 56 [.pointer (some q_b_0), .int .i64 anchor].toArray W (RetS M W (.tuple [.int .i64 r.1, .int .i64 r.2.1, .bool r.2.2].toArray)) := by
 have hh_b_0 := h_b_0
 obtain ⟨ad1, cap2, ad4, cap5, rfl, hl3, hl6⟩ := h_b_0
 have := hl3.len
 have := hl6.len
 unfold m56 at hr
 refine enterG (M := M) Tryz.func56 rfl Tryz.ntmps56 rfl hH ?_
 refine sq (rg (a1 rfl (a1 rfl (a1 rfl (on (sc (sq (lb (sq (sq (rg ?_)))))))))))
 refine m1 rfl (nl rfl rfl (fb 5 U110 rfl rfl rfl rfl Z108 (ld G108 rfl rfl ((sS 0 rfl hc_b_0).drop 5) rfl (lnL U108 rfl rfl (m1 rfl (on ?_))))))
 obtain ⟨e40, hl41, hr42⟩ := bd_some hr
 refine jn (fun a w => St M W H [H] [] w ∧ Has [] 40 a [(4, .int .i64 (e40.1 : Int)), (5, .int .i64 (e40.2.1 : Int)), (6, .bool e40.2.2)]) ?_ ?_
 ·refine bk ?_
  refine lp hl41 (fun s43 a w => St M W H [H] [] w ∧ Has [] 40 a [(1, .int .i64 anchor), (4, .int .i64 (s43.1 : Int)), (5, .int .i64 (s43.2.1 : Int)), (6, .bool s43.2.2.2), (14, .slice ad4 b_0.parts.length cap5), (15, .int .i64 (b_0.parts.length : Int)), (16, .int .i64 (s43.2.2.1 : Int))]) ?_ ?_
  ·exact cu ⟨rfl, rfl, rfl, rfl, rfl, rfl, rfl, tv⟩
  ·rintro j s43 y46 hr44 hz45 a w ⟨hS, hA⟩
   refine TG.ap ?_ hS hA
   unfold m56_1 at hr44
   refine sq (rg (ltI rfl rfl rfl (on (sq ?_))))
   refine ci rfl (fun hc50 => ?_) (fun hc50 => ?_)
   ·have hr51 := if_p hc50 hr44
    refine sk (sq (bk (sq (rg (m1 rfl ?_)))))
    obtain ⟨x81, hx82, hr83⟩ := bd_some hr51
    obtain ⟨p84, rfl⟩ := hl6.adr hx82
    obtain ⟨cs85, hcs86, hq87, hr88⟩ := hl6.at hx82
    have hr89 := hr88
    obtain ⟨ad90, cap91, rfl, hl92⟩ := hr88
    have := hl92.len
    refine iaP U108 Z113 rfl rfl rfl rfl (lt_of hx82) (ld G113 rfl rfl (sS 0 rfl hq87) rfl (a1 rfl (a1 rfl (on (sq (rg (m1 rfl (lnL U113 rfl rfl (m1 rfl (on ?_))))))))))
    obtain ⟨e109, hl110, hr111⟩ := bd_some hr83
    refine jn (fun a w => ∃ t112, e109 = .inl t112 ∧ St M W H [H] [] w ∧ Has [] 40 a [(1, .int .i64 anchor), (4, .int .i64 (t112.1 : Int)), (5, .int .i64 (t112.2.1 : Int)), (6, .bool t112.2.2), (14, .slice (some p84) b_0.parts.length cap5), (15, .int .i64 (b_0.parts.length : Int)), (16, .int .i64 (s43.2.2.1 : Int))]) ?_ ?_
    ·refine bk ?_
     refine lp hl110 (fun s113 a w => St M W H [H] [] w ∧ Has [] 40 a [(1, .int .i64 anchor), (4, .int .i64 (s113.1 : Int)), (5, .int .i64 (s113.2.1 : Int)), (6, .bool s113.2.2.2), (7, .int .i64 (s43.2.2.1 : Int)), (14, .slice (some p84) b_0.parts.length cap5), (15, .int .i64 (b_0.parts.length : Int)), (16, .int .i64 (s43.2.2.1 : Int)), (21, .slice ad90 x81.length cap91), (22, .int .i64 (x81.length : Int)), (23, .int .i64 (s113.2.2.1 : Int))]) ?_ ?_
     ·exact cu ⟨rfl, rfl, rfl, rfl, rfl, rfl, rfl, rfl, rfl, rfl, rfl, tv⟩
     ·rintro j s113 y116 hr114 hz115 a w ⟨hS, hA⟩
      refine TG.ap ?_ hS hA
      unfold m56_2 at hr114
      refine sq (rg (ltI rfl rfl rfl (on (sq ?_))))
      refine ci rfl (fun hc120 => ?_) (fun hc120 => ?_)
      ·have hr121 := if_p hc120 hr114
       refine sk (sq (bk (sq (rg (m1 rfl ?_)))))
       obtain ⟨x134, hx135, hr136⟩ := bd_some hr121
       obtain ⟨p137, rfl⟩ := hl92.adr hx135
       obtain ⟨cs138, hcs139, hq140, hr141⟩ := hl92.at hx135
       obtain rfl := hr141
       refine iaP U113 Z115 rfl rfl rfl rfl (lt_of hx135) (ldA G115 Z115 rfl rfl (sS 0 rfl hq140) rfl (al 1 (cs := [.int .i64 0, .string (bs []), .bool false]) Tryz.zeroValue115 rfl rfl fun b142 => (a1 rfl (sto 1 (cs := [.int .i64 x134.paragraph.anchor, .string (bs x134.paragraph.text), .bool x134.removed]) Z115 rfl rfl rfl rfl rfl rfl rfl (on (sq (rg (fb 0 U115 rfl rfl rfl rfl Z52 (fb 0 U52 rfl rfl rfl rfl Z3 (ld G3 rfl rfl ((sO 1 rfl).take 1) rfl (m1 rfl ?_)))))))))))
       refine eqI rfl rfl rfl (on ?_)
       refine ci rfl (fun hc146 => ?_) (fun hc146 => ?_)
       ·have hr147 := if_p hc146 hr136
        refine sq (rg (m1 rfl (m1 rfl (a1 rfl (a1 rfl (a1 rfl (on (xt rfl ?_))))))))
        obtain ⟨z148, hr149, rfl⟩ := mp_some hr147
        obtain rfl := Fin.out hz115
        cases hr111
        refine TG.del 1 ?_
        cases hr149
        obtain rfl := Fin.out hz45
        exact cu ⟨rfl, rfl, rfl, tv⟩
       ·have hr150 := if_n hc146 hr136
        refine sk (rg (adI rfl rfl rfl (by omega) (m1 rfl (on (TG.del 1 ?_)))))
        cases hr150
        intro a w hS hA
        exact ⟨_, hz115, hS, hA.cut ⟨rfl, rfl, rfl, rfl, rfl, rfl, rfl, rfl, rfl, rfl, rfl, tv⟩⟩
      ·have hr151 := if_n hc120 hr114
       refine xt rfl ?_
       cases hr151
       obtain rfl := Fin.out hz115
       intro a w hS hA
       exact ⟨_, rfl, hS, hA.cut ⟨rfl, rfl, rfl, rfl, rfl, rfl, rfl, tv⟩⟩
    ·rintro a w ⟨t112, rfl, hS, hA⟩
     refine TG.ap ?_ hS hA
     refine rg (adI rfl rfl rfl (by omega) (m1 rfl (on ?_)))
     cases hr111
     intro a w hS hA
     exact ⟨_, hz45, hS, hA.cut ⟨rfl, rfl, rfl, rfl, rfl, rfl, rfl, tv⟩⟩
   ·have hr152 := if_n hc50 hr44
    refine xt rfl ?_
    cases hr152
    obtain rfl := Fin.out hz45
    exact cu ⟨rfl, rfl, rfl, tv⟩
 ·rintro a w ⟨hS, hA⟩
  refine TG.ap ?_ hS hA
  refine sq (rg (m1 rfl (m1 rfl (m1 rfl (a1 rfl (a1 rfl (a1 rfl (on (rt_ ?_)))))))))
  cases hr42
  intro a w hS hA
  refine ret3 hA rfl rfl rfl rfl ?_
  exact ⟨rfl, hS.ext⟩

theorem w57 {M : Prop} {W : World} {H : Hp} (hH : H.le (hp W))  {r : Unit} (hr : m57 = some r) : Calls Tryz.prog 57 [].toArray W (RetK M H W (fun v K => ∃ (q0 : Addr), v = .slice (some q0) 3 3 ∧ CellsAt K q0 [.func (.func 89) [].toArray [].toArray, .func (.func 90) [].toArray [].toArray, .func (.func 91) [].toArray [].toArray])) := by
 unfold m57 at hr
 refine enterG (M := M) Tryz.func57 rfl Tryz.ntmps57 rfl hH ?_
 refine sq (rg (a1 rfl (on (sq (rg (bu (cs := [.func (.func 89) [].toArray [].toArray]) T10.B168 rfl rfl rfl (bu (cs := [.func (.func 90) [].toArray [].toArray]) T10.B168 rfl rfl rfl (bu (cs := [.func (.func 91) [].toArray [].toArray]) T10.B168 rfl rfl rfl (bS (cs := [.func (.func 89) [].toArray [].toArray, .func (.func 90) [].toArray [].toArray, .func (.func 91) [].toArray [].toArray]) T10.E169 rfl rfl rfl rfl fun q1 K2 hq3 hK4 => (a1 rfl (on ?_)))))))))))
 refine rt_ ?_
 obtain rfl := sj hr
 intro a w hS hA
 refine ret1 hA rfl rfl ?_
 exact ⟨⟨_, rfl, hK4.mono (hS.grow 0 rfl)⟩, hS.ext⟩

theorem w35 {M : Prop} {W : World} {H : Hp} (hH : H.le (hp W)) {cs_v_0 : List Value} (v_0 : Volume) (h_v_0 : (RVolume) H cs_v_0 v_0) {ad_errata : Option Addr} {cap_errata : Nat} {errata : List Erratum} (h_errata : Sl (Flat encErratum) 6 H ad_errata cap_errata errata) (to_2 : Int) {r : edition} (hr : m35 v_0 errata to_2 = some r) : Calls Tryz.prog 35 [.agg cs_v_0.toArray, .slice ad_errata errata.length cap_errata, .int .i64 to_2].toArray W (RetK M H W (fun v K => ∃ (u0 : Addr) (cs0 : List Value), v = .pointer (some u0) ∧ CellsAt K u0 cs0 ∧ (Redition) K cs0 r)) := by
 have hh_v_0 := h_v_0
 obtain ⟨ad1, cap2, rfl, hl3⟩ := h_v_0
 have := hl3.len
 have := h_errata.len
 unfold m35 at hr
 refine enterGM (M := M) Tryz.func35 rfl Tryz.ntmps35 rfl hH ?_
 refine sq (rg (bI (cs := [.int .i64 v_0.number, .int .i64 v_0.bound, .int .i64 v_0.height, .int .i64 v_0.width, .slice ad1 v_0.parts.length cap2]) rfl rfl rfl fun q4 K5 hK6 => (a1 rfl (on (sq (rg (ldA G42 Z42 rfl rfl (sS 0 rfl hK6) rfl (bu (cs := [.int .i64 v_0.number, .int .i64 v_0.bound, .int .i64 v_0.height, .int .i64 v_0.width, .slice ad1 v_0.parts.length cap2, .slice none 0 0]) T10.B110 rfl rfl rfl (bO 1 rfl rfl rfl fun b7 => (va (cs := [.pointer (some (⟨b7, 0, none⟩))]) Tryz.zeroValue111 Z111 rfl rfl rfl rfl rfl rfl rfl rfl fun q8 K9 hK10 => (on ?_)))))))))))
 refine sq (sq (rg (fb 4 U42 rfl rfl rfl rfl Z40 (ld G40 rfl rfl ((sS 1 rfl hK6).drop 4) rfl (lnL U40 rfl rfl (m1 rfl (on (TG.nilRow 5 113 1 (TG.as 5 (z := Own.list none 0 113 1 encV ([] : List Hd)) rfl rfl (TG.gopen (σ := [(5, Own.list none 0 113 1 encV ([] : List Hd)), (1, cel b7 110 [.int .i64 v_0.number, .int .i64 v_0.bound, .int .i64 v_0.height, .int .i64 v_0.width, .slice ad1 v_0.parts.length cap2, .slice none 0 0])]) 115 3 encentry 1000 0 ?_))))))))))
 have hG114 := Grid.none entry
 obtain ⟨e437, hl438, hr439⟩ := bd_some hr
 refine jn (fun a w => ∃ (hd440 : List Hd) (as441 : List Adr) (ad444 : Option Addr) (cap445 : Nat), St M W H [K9, K5, H] ([(5, Own.list ad444 cap445 113 1 encV hd440), (1, cel b7 110 [.int .i64 v_0.number, .int .i64 v_0.bound, .int .i64 v_0.height, .int .i64 v_0.width, .slice ad1 v_0.parts.length cap2, .slice ad444 hd440.length cap445])] ++ grp 115 3 encentry 1000 as441 e437) w ∧ Has [] 76 a [(1, .slice ad_errata errata.length cap_errata), (2, .int .i64 to_2), (7, .pointer (some q8))] ∧ Grid hd440 as441 e437) ?_ ?_
 ·refine bk ?_
  refine lp hl438 (fun s446 a w => ∃ (hd447 : List Hd) (as448 : List Adr) (ad451 : Option Addr) (cap452 : Nat), St M W H [K9, K5, H] ([(5, Own.list ad451 cap452 113 1 encV hd447), (1, cel b7 110 [.int .i64 v_0.number, .int .i64 v_0.bound, .int .i64 v_0.height, .int .i64 v_0.width, .slice ad1 v_0.parts.length cap2, .slice ad451 hd447.length cap452])] ++ grp 115 3 encentry 1000 as448 s446.2) w ∧ Has [] 76 a [(1, .slice ad_errata errata.length cap_errata), (2, .int .i64 to_2), (7, .pointer (some q8)), (21, .slice ad1 v_0.parts.length cap2), (22, .int .i64 (v_0.parts.length : Int)), (23, .int .i64 (s446.1 : Int))] ∧ Grid hd447 as448 s446.2) ?_ ?_
  ·intro a w hS hA
   exact ⟨([] : List Hd), ([] : List Adr), none, 0, hS, hA.cut ⟨rfl, rfl, rfl, rfl, rfl, rfl, tv⟩, hG114⟩
  ·rintro j s446 y455 hr453 hz454 a w ⟨hd447, as448, ad451, cap452, hS, hA, hG449⟩
   refine TG.ap ?_ hS hA
   unfold m35_1 at hr453
   refine sq (rg (ltI rfl rfl rfl (on (sq ?_))))
   refine ci rfl (fun hc459 => ?_) (fun hc459 => ?_)
   ·have hr460 := if_p hc459 hr453
    refine sk (sq (bk (sq (rg ?_))))
    obtain ⟨x559, hx560, hr561⟩ := bd_some hr460
    obtain ⟨p562, rfl⟩ := hl3.adr hx560
    obtain ⟨cs563, hcs564, hq565, hr566⟩ := hl3.at hx560
    have hr567 := hr566
    obtain ⟨ad568, cap569, rfl, hl570⟩ := hr566
    have := hl570.len
    refine iaP U40 Z105 rfl rfl rfl rfl (lt_of hx560) (ldA G105 Z105 rfl rfl (sS 2 rfl hq565) rfl (va (cs := [.int .i64 x559.day, .slice ad568 x559.paragraphs.length cap569]) Tryz.zeroValue105 Z105 rfl rfl rfl rfl rfl rfl rfl rfl fun q571 K572 hK573 => (on (sq (rg (a1 rfl (on (sq (sq (rg (fb 1 U105 rfl rfl rfl rfl Z36 ?_)))))))))))
    refine ld G36 rfl rfl ((sS 0 rfl hK573).drop 1) rfl (lnL U36 rfl rfl (m1 rfl (on (TG.nilRow 3 115 3 (TG.as 3 (z := Own.list none 0 115 3 encentry ([] : List entry)) rfl rfl ?_)))))
    obtain ⟨e640, hl641, hr642⟩ := bd_some hr561
    refine jn (fun a w => ∃ (ad643 : Option Addr) (cap644 : Nat), St M W H [K572, K9, K5, H] ([(3, Own.list ad643 cap644 115 3 encentry e640), (5, Own.list ad451 cap452 113 1 encV hd447), (1, cel b7 110 [.int .i64 v_0.number, .int .i64 v_0.bound, .int .i64 v_0.height, .int .i64 v_0.width, .slice (some p562) v_0.parts.length cap2, .slice ad451 hd447.length cap452])] ++ grp 115 3 encentry 1000 as448 s446.2) w ∧ Has [] 76 a [(1, .slice ad_errata errata.length cap_errata), (2, .int .i64 to_2), (7, .pointer (some q8)), (10, .slice ad643 e640.length cap644), (21, .slice (some p562) v_0.parts.length cap2), (22, .int .i64 (v_0.parts.length : Int)), (23, .int .i64 (s446.1 : Int))]) ?_ ?_
    ·refine bk ?_
     refine lp hl641 (fun s645 a w => ∃ (ad646 : Option Addr) (cap647 : Nat), St M W H [K572, K9, K5, H] ([(3, Own.list ad646 cap647 115 3 encentry s645.2), (5, Own.list ad451 cap452 113 1 encV hd447), (1, cel b7 110 [.int .i64 v_0.number, .int .i64 v_0.bound, .int .i64 v_0.height, .int .i64 v_0.width, .slice (some p562) v_0.parts.length cap2, .slice ad451 hd447.length cap452])] ++ grp 115 3 encentry 1000 as448 s446.2) w ∧ Has [] 76 a [(1, .slice ad_errata errata.length cap_errata), (2, .int .i64 to_2), (7, .pointer (some q8)), (10, .slice ad646 s645.2.length cap647), (21, .slice (some p562) v_0.parts.length cap2), (22, .int .i64 (v_0.parts.length : Int)), (23, .int .i64 (s446.1 : Int)), (28, .slice ad568 x559.paragraphs.length cap569), (29, .int .i64 (x559.paragraphs.length : Int)), (30, .int .i64 (s645.1 : Int))]) ?_ ?_
     ·intro a w hS hA
      exact ⟨none, 0, hS, hA.cut ⟨rfl, rfl, rfl, rfl, rfl, rfl, rfl, rfl, rfl, rfl, tv⟩⟩
     ·rintro j s645 y650 hr648 hz649 a w ⟨ad646, cap647, hS, hA⟩
      refine TG.ap ?_ hS hA
      unfold m35_2 at hr648
      refine sq (rg (ltI rfl rfl rfl (on (sq ?_))))
      refine ci rfl (fun hc654 => ?_) (fun hc654 => ?_)
      ·have hr655 := if_p hc654 hr648
       refine sk (sq (bk (sq (rg ?_))))
       obtain ⟨x672, hx673, hr674⟩ := bd_some hr655
       obtain ⟨p675, rfl⟩ := hl570.adr hx673
       obtain ⟨cs676, hcs677, hq678, hr679⟩ := hl570.at hx673
       obtain rfl := hr679
       refine iaP U36 Z52 rfl rfl rfl rfl (lt_of hx673) (ldA G52 Z52 rfl rfl (sS 3 rfl hq678) rfl (va (cs := [.int .i64 x672.anchor, .string (bs x672.text)]) Tryz.zeroValue52 Z52 rfl rfl rfl rfl rfl rfl rfl rfl fun q680 K681 hK682 => (on (rg (m1 rfl (ldA G52 Z52 rfl rfl (sS 0 rfl hK682) rfl (bu (cs := [.int .i64 x672.anchor, .string (bs x672.text), .bool false]) T10.B115 rfl rfl rfl ?_)))))))
       obtain ⟨hk683, hr684⟩ := chk_some hr674
       have := lenA s645.2 [(⟨x672, false⟩ : entry)]
       have := len1 (⟨x672, false⟩ : entry)
       refine ap1 3 encentry (l := s645.2) (⟨x672, false⟩ : entry) T10.E113 rfl rfl rfl rfl rfl rfl rfl rfl rfl rfl rfl rfl hk683 fun ad685 cap686 u687 => (a1 rfl (on (rg (adI rfl rfl rfl (by omega) (m1 rfl (on ?_))))))
       cases hr684
       intro a w hS hA
       exact ⟨_, hz649, ad685, cap686, hS.selH [1, 2, 3, 4] rfl, hA.cut ⟨rfl, rfl, rfl, rfl, rfl, rfl, rfl, rfl, rfl, rfl, tv⟩⟩
      ·have hr688 := if_n hc654 hr648
       refine xt rfl ?_
       cases hr688
       obtain rfl := Fin.out hz649
       intro a w hS hA
       exact ⟨ad646, cap647, hS, hA.cut ⟨rfl, rfl, rfl, rfl, rfl, rfl, rfl, tv⟩⟩
    ·rintro a w ⟨ad643, cap644, hS, hA⟩
     refine TG.ap ?_ hS hA
     obtain ⟨hk697, hr698⟩ := chk_some hr642
     refine drG2 8 7 mixed (by kernel_rfl) rfl rfl (DG.detA rfl rfl rfl (fun τ a w K hS hA hF => TG.pa hS hA (ld G111 rfl rfl (sS 2 rfl hK10) rfl fin1)) (DG.det (fun τ => τ = ([(3, Own.list ad643 cap644 115 3 encentry e640), (5, Own.list ad451 cap452 113 1 encV hd447), (1, cel b7 110 [.int .i64 v_0.number, .int .i64 v_0.bound, .int .i64 v_0.height, .int .i64 v_0.width, .slice (some p562) v_0.parts.length cap2, .slice ad451 hd447.length cap452])] ++ grp 115 3 encentry 1000 as448 s446.2)) rfl rfl (.inr (by kernel_rfl)) (fun _ h => by cases h) rfl rfl (fun τ hτ a w K hS hA hF => by subst hτ <;> exact TG.pa hS hA (ld G111 rfl rfl (sS 2 rfl hK10) rfl fin1)) (DG.det (fun τ => τ = ([(3, Own.list ad643 cap644 115 3 encentry e640), (5, Own.list ad451 cap452 113 1 encV hd447), (1, cel b7 110 [.int .i64 v_0.number, .int .i64 v_0.bound, .int .i64 v_0.height, .int .i64 v_0.width, .slice (some p562) v_0.parts.length cap2, .slice ad451 hd447.length cap452])] ++ grp 115 3 encentry 1000 as448 s446.2)) rfl rfl (.inr (by kernel_rfl)) (fun _ h => by cases h) rfl rfl (fun τ hτ a w K hS hA hF => by subst hτ <;> exact TG.pa hS hA (nl rfl rfl fin1)) (DG.det (fun τ => τ = ([(3, Own.list ad643 cap644 115 3 encentry e640), (5, Own.list ad451 cap452 113 1 encV hd447), (1, cel b7 110 [.int .i64 v_0.number, .int .i64 v_0.bound, .int .i64 v_0.height, .int .i64 v_0.width, .slice (some p562) v_0.parts.length cap2, .slice ad451 hd447.length cap452])] ++ grp 115 3 encentry 1000 as448 s446.2)) rfl rfl (.inr (by kernel_rfl)) (fun _ h => by cases h) rfl rfl (fun τ hτ a w K hS hA hF => by subst hτ <;> exact TG.pa hS hA (fb 5 U110 rfl rfl rfl rfl Z108 fin1)) (DG.det (fun τ => τ = ([(3, Own.list ad643 cap644 115 3 encentry e640), (5, Own.list ad451 cap452 113 1 encV hd447), (1, cel b7 110 [.int .i64 v_0.number, .int .i64 v_0.bound, .int .i64 v_0.height, .int .i64 v_0.width, .slice (some p562) v_0.parts.length cap2, .slice ad451 hd447.length cap452])] ++ grp 115 3 encentry 1000 as448 s446.2)) rfl rfl (.inr (by kernel_rfl)) (fun _ h => by cases h) rfl rfl (fun τ hτ a w K hS hA hF => by subst hτ <;> exact TG.pa hS hA (ld G108 rfl rfl ((sO 1 rfl).drop 5) rfl fin1)) (DG.det (fun τ => τ = ([(3, Own.list ad643 cap644 115 3 encentry e640), (5, Own.list ad451 cap452 113 1 encV hd447), (1, cel b7 110 [.int .i64 v_0.number, .int .i64 v_0.bound, .int .i64 v_0.height, .int .i64 v_0.width, .slice (some p562) v_0.parts.length cap2, .slice ad451 hd447.length cap452])] ++ grp 115 3 encentry 1000 as448 s446.2)) rfl rfl (.inr (by kernel_rfl)) (fun _ h => by cases h) rfl rfl (fun τ hτ a w K hS hA hF => by subst hτ <;> exact TG.pa hS hA (m1 rfl fin1)) ?_))))))
     refine DG.und (α := Option Addr × Nat) (none, 0) (fun q => .slice q.1 1 q.2) (fun (q : Option Addr × Nat) K => Sl (Flat encV) 1 K q.1 q.2 [(ad643, e640.length, cap644)]) (fun τ => τ = ([(3, Own.list ad643 cap644 115 3 encentry e640), (5, Own.list ad451 cap452 113 1 encV hd447), (1, cel b7 110 [.int .i64 v_0.number, .int .i64 v_0.bound, .int .i64 v_0.height, .int .i64 v_0.width, .slice (some p562) v_0.parts.length cap2, .slice ad451 hd447.length cap452])] ++ grp 115 3 encentry 1000 as448 s446.2)) rfl rfl (.inr (by kernel_rfl)) (fun _ h => by cases h) (fun _ _ _ h x => x.mono (Flat.mono encV) h) (by kernel_rfl) rfl rfl (fun τ hτ a w K hS hA hF => by subst hτ <;> exact TG.pa hS hA (bS (cs := [(Value.slice ad643 e640.length cap644)]) T10.E108 rfl rfl rfl rfl fun q689 K690 hq691 hK692 => by
       have hl693 : Sl (Flat encV) 1 K690 (some q689) 1 [(ad643, e640.length, cap644)] := Sl.litR (css := [[(Value.slice ad643 e640.length cap644)]]) (l := [(ad643, e640.length, cap644)]) ⟨⟨rfl, rfl, rfl⟩, tv⟩ hq691 hK692 rfl
       exact finU (f := fun q => .slice q.1 1 q.2) (G := (fun (q : Option Addr × Nat) K => Sl (Flat encV) 1 K q.1 q.2 [(ad643, e640.length, cap644)])) (_, _) (fun _ _ _ h x => x.mono (Flat.mono encV) h) hl693)) ?_
     rintro ⟨ad695, cap696⟩
     refine DG.turn (α := Option Addr × Nat) (none, 0) (fun q => .slice q.1 ((hd447 ++ [(ad643, e640.length, cap644)]).length) q.2) (fun _ _ => True) (fun q => ([(3, Own.list ad643 cap644 115 3 encentry e640), (5, Own.list q.1 q.2 113 1 encV (hd447 ++ [(ad643, e640.length, cap644)])), (1, cel b7 110 [.int .i64 v_0.number, .int .i64 v_0.bound, .int .i64 v_0.height, .int .i64 v_0.width, .slice (some p562) v_0.parts.length cap2, .slice ad451 hd447.length cap452])] ++ grp 115 3 encentry 1000 as448 s446.2)) rfl (fun _ _ _ _ h => h) (by kernel_rfl) rfl rfl (fun a w K hS hA hF => TG.pa hS hA (apS 5 (enc := encV) (l := hd447) (m := [(ad643, e640.length, cap644)]) T10.E108 rfl rfl rfl rfl rfl rfl (hF.1 rfl) 0 rfl (fun _ => rfl) (fun _ => rfl) rfl (by have := hG449.hlen; simp only [List.length_cons, List.length_nil]; omega) fun ad699 cap700 => finT (f := fun q => .slice q.1 ((hd447 ++ [(ad643, e640.length, cap644)]).length) q.2) (G := fun _ _ => True) (σ1 := fun q => ([(3, Own.list ad643 cap644 115 3 encentry e640), (5, Own.list q.1 q.2 113 1 encV (hd447 ++ [(ad643, e640.length, cap644)])), (1, cel b7 110 [.int .i64 v_0.number, .int .i64 v_0.bound, .int .i64 v_0.height, .int .i64 v_0.width, .slice (some p562) v_0.parts.length cap2, .slice ad451 hd447.length cap452])] ++ grp 115 3 encentry 1000 as448 s446.2)) (_, _) tv)) ?_
     rintro ⟨ad699, cap700⟩
     refine DG.nil fun K701 hF => ?_
     obtain ⟨_, hu694, _⟩ := hF
     have := hu694.len
     refine TG.absorbA [(3, Own.list ad643 cap644 115 3 encentry e640), (5, Own.list ad699 cap700 113 1 encV (hd447 ++ [(ad643, e640.length, cap644)])), (1, cel b7 110 [.int .i64 v_0.number, .int .i64 v_0.bound, .int .i64 v_0.height, .int .i64 v_0.width, .slice (some p562) v_0.parts.length cap2, .slice ad451 hd447.length cap452])] (B := [(5, Own.list ad699 cap700 113 1 encV (hd447 ++ [(ad643, e640.length, cap644)])), (1, cel b7 110 [.int .i64 v_0.number, .int .i64 v_0.bound, .int .i64 v_0.height, .int .i64 v_0.width, .slice (some p562) v_0.parts.length cap2, .slice ad451 hd447.length cap452])]) 3 (b := 1000) hG449 rfl rfl ?_
     have hG702 := hG449.snoc e640 ad643 cap644
     refine nl rfl rfl (fb 5 U110 rfl rfl rfl rfl Z108 (sto 1 (cs := [.slice ad699 ((hd447 ++ [(ad643, e640.length, cap644)]).length) cap700]) Z108 rfl rfl rfl rfl rfl rfl rfl (on (rg (adI rfl rfl rfl (by omega) (m1 rfl (on ?_)))))))
     cases hr698
     intro a w hS hA
     exact ⟨_, hz454, (hd447 ++ [(ad643, e640.length, cap644)]), (as448 ++ [(ad643, cap644)]), ad699, cap700, hS.selH [2, 3, 4] rfl, hA.cut ⟨rfl, rfl, rfl, rfl, rfl, rfl, tv⟩, hG702⟩
   ·have hr703 := if_n hc459 hr453
    refine xt rfl ?_
    cases hr703
    obtain rfl := Fin.out hz454
    intro a w hS hA
    exact ⟨hd447, as448, ad451, cap452, hS, hA.cut ⟨rfl, rfl, rfl, tv⟩, hG449⟩
 ·rintro a w ⟨hd440, as441, ad444, cap445, hS, hA, hG442⟩
  refine TG.ap ?_ hS hA
  refine sq (sq (rg (m1 rfl (m1 rfl (clT C55 Tryz.func55 rfl Tryz.ntmps55 rfl rfl rfl rfl (sq (rg (bI (cs := [.slice ad_errata errata.length cap_errata]) rfl rfl rfl fun q710 K711 hK712 => (bI (cs := [.int .i64 to_2]) rfl rfl rfl fun q713 K714 hK715 => (a1 rfl (on ?_)))))))))))
  refine sq (rg (fn rfl rfl rfl (a1 rfl (on (rt_ ?_)))))
  intro a w hS hA
  refine ret1 hA rfl rfl ?_
  refine ⟨_, rfl, fun a hA => ?_⟩
  refine putK rfl hA hS (on (bk (TG.stillC 1 rfl fun K1212 hK1213 => ?_)))
  obtain ⟨t1701, hx1702, hr1703⟩ := bd_some hr439
  refine rfO 6 7 C85 Tryz.func85 rfl Tryz.ntmps85 rfl rfl (fun l1214 dB1215 O1217 w => (∃ (hd1704 : List Hd) (as1705 : List Adr), St M W H [K1212, K714, K711, K9, K5, H] ([(6, Own.blk l1214 (O1217 .ready none)), (7, Own.blk dB1215 (.deferred (some []))), (5, Own.list ad444 cap445 113 1 encV hd1704)] ++ grp 115 3 encentry 1000 as1705 t1701) w ∧ Grid hd1704 as1705 t1701 ∧ hd1704.length = hd440.length)) ?_ ?_
  ·intro l1214 dB1215 O1217 tm1216 hT1218 hO1219
   refine sq (rg (ld G44 rfl rfl (sS 2 rfl hK712) rfl ?_))
   obtain ⟨t1715, hx1716, hr1717⟩ := bd_some hx1702
   refine clI C86 Tryz.func86 rfl Tryz.ntmps86 rfl rfl rfl rfl (fun v w => (∃ (ad1718 : Option Addr) (cap1719 : Nat), v = .slice ad1718 t1715.length cap1719 ∧ St M W H [K1212, K714, K711, K9, K5, H] ([(8, Own.list ad1718 cap1719 116 6 encErratum t1715), (6, Own.blk l1214 (O1217 .ready none)), (7, Own.blk dB1215 (.deferred (some []))), (5, Own.list ad444 cap445 113 1 encV hd440)] ++ grp 115 3 encentry 1000 as441 e437) w)) ?_ ?_
   ·refine sq (rg (a1 rfl (on (sq (sq (rg (m1 rfl (slN U44 rfl rfl (on ?_)))))))))
    refine cb rfl (fun hc1722 => ?_) (fun hc1722 => ?_)
    ·obtain rfl := Sl.isNil h_errata hc1722
     have hr1723 := (chk_some hx1716).2
     refine sq (rg (a1 rfl (on (rt_ (TG.nilRow 8 116 6 (TG.as 8 (z := Own.list none 0 116 6 encErratum ([] : List Erratum)) rfl rfl ?_))))))
     cases hr1723
     intro a w hS hA
     refine ret1 hA rfl rfl ?_
     exact ⟨_, rfl, ⟨none, 0, rfl, hS⟩⟩
    ·refine sk (sq (rg (bSL 8 encErratum ([] : List Erratum) (cs := []) T10.E44 rfl rfl rfl rfl rfl rfl fun b1724 => (m1 rfl ?_))))
     obtain ⟨hk1725, hr1726⟩ := chk_some hx1716
     have := lenA ([] : List Erratum) errata
     refine apS 8 (enc := encErratum) (l := ([] : List Erratum)) (m := errata) T10.E44 rfl rfl rfl rfl rfl rfl h_errata 5 rfl (fun _ => rfl) (fun _ => rfl) rfl hk1725 fun ad1727 cap1728 => (a1 rfl (on (rt_ ?_)))
     cases hr1726
     intro a w hS hA
     refine ret1 hA rfl rfl ?_
     exact ⟨_, rfl, ⟨ad1727, cap1728, rfl, hS⟩⟩
   ·rintro a w v hA (⟨ad1718, cap1719, rfl, hS⟩)
    refine putK rfl hA hS (a1 rfl (on (sq (rg (m1 rfl ?_)))))
    obtain ⟨l1729, hx1730, hr1731⟩ := bd_some hr1717
    have hln1732 : l1729.length = t1715.length := (sortO_len hx1730)
    refine srtK 8 (enc := encErratum) (V := Va encErratum) (V' := Va encErratum) (fun _ => rfl) (fun _ => rfl) Tryz.srt87 C87 rfl rfl rfl rfl rfl rfl (fun H le => ⟨88, [], [], rfl, C88, fun w_ K_ args_ v_ hK hw hs => by obtain ⟨u0_, u1_, x0_, x1_, r_, rfl, h0_, h1_, hx, rfl⟩ := hs; cases h0_; cases h1_; exact w88  x0_ rfl x1_ rfl  hx⟩) (fun _ _ => rfl) (fun _ _ => rfl) hx1730 (on (sq (rg (m1 rfl (TG.len 8 rfl fun _ => (lnL U44 rfl rfl (m1 rfl (on ?_))))))))
    obtain ⟨e2193, hl2194, hr2195⟩ := bd_some hr1731
    refine jn (fun a w => ∃ t2196, e2193 = .inl t2196 ∧ ∃ (hd2197 : List Hd) (as2198 : List Adr), St M W H [K1212, K714, K711, K9, K5, H] ([(8, Own.list ad1718 cap1719 116 6 encErratum l1729), (6, Own.blk l1214 (O1217 .ready none)), (7, Own.blk dB1215 (.deferred (some []))), (5, Own.list ad444 cap445 113 1 encV hd2197)] ++ grp 115 3 encentry 1000 as2198 t2196) w ∧ Has [] 28 a [] ∧ Grid hd2197 as2198 t2196 ∧ hd2197.length = hd440.length) ?_ ?_
    ·refine bk ?_
     refine lp hl2194 (fun s2201 a w => ∃ (hd2202 : List Hd) (as2203 : List Adr), St M W H [K1212, K714, K711, K9, K5, H] ([(8, Own.list ad1718 cap1719 116 6 encErratum l1729), (6, Own.blk l1214 (O1217 .ready none)), (7, Own.blk dB1215 (.deferred (some []))), (5, Own.list ad444 cap445 113 1 encV hd2202)] ++ grp 115 3 encentry 1000 as2203 s2201.2) w ∧ Has [] 28 a [(0, .func (.yield l1214) #[] #[]), (2, .pointer (some q713)), (11, .slice ad1718 t1715.length cap1719), (12, .int .i64 (t1715.length : Int)), (13, .int .i64 (s2201.1 : Int))] ∧ Grid hd2202 as2203 s2201.2 ∧ hd2202.length = hd440.length) ?_ ?_
     ·intro a w hS hA
      exact ⟨hd440, as441, hS, hA.cut ⟨rfl, rfl, rfl, rfl, rfl, tv⟩, hG442, rfl⟩
     ·rintro j s2201 y2208 hr2206 hz2207 a w ⟨hd2202, as2203, hS, hA, hG2204, hln2205⟩
      refine TG.ap ?_ hS hA
      unfold m35_3 at hr2206
      refine sq (rg (ltI rfl rfl rfl (on (sq ?_))))
      refine ci rfl (fun hc2212 => ?_) (fun hc2212 => ?_)
      ·have hr2213 := if_p hc2212 hr2206
       refine sk (sq (bk (sq (rg ?_))))
       obtain ⟨x2432, hx2433, hr2434⟩ := bd_some hr2213
       refine TG.addr 8 rfl (lt_of0 hx2433) fun b2435 h => ?_; subst h
       refine iaP U44 Z116 rfl rfl rfl rfl (Nat.lt_of_lt_of_eq (lt_of hx2433) hln1732) (ldA G116 Z116 rfl rfl (sE 8 rfl (fun _ => rfl) hx2433) rfl (va (cs := [.int .i64 x2432.number, .int .i64 x2432.day, .int .u8 x2432.kind, .int .i64 x2432.anchor, .string (bs x2432.text), .int .i64 x2432.new_]) Tryz.zeroValue116 Z116 rfl rfl rfl rfl rfl rfl rfl rfl fun q2436 K2437 hK2438 => (on (sq ?_))))
       obtain ⟨t2642, hx2643, hr2644⟩ := bd_some hr2434
       refine jn (fun a w => ∃ (hd2645 : List Hd) (as2646 : List Adr), St M W H [K2437, K1212, K714, K711, K9, K5, H] ([(8, Own.list (some ⟨b2435, 0, none⟩) cap1719 116 6 encErratum l1729), (6, Own.blk l1214 (O1217 .ready none)), (7, Own.blk dB1215 (.deferred (some []))), (5, Own.list ad444 cap445 113 1 encV hd2645)] ++ grp 115 3 encentry 1000 as2646 t2642.2) w ∧ Has [] 28 a [(0, .func (.yield l1214) #[] #[]), (2, .pointer (some q713)), (11, .slice (some ⟨b2435, 0, none⟩) t1715.length cap1719), (12, .int .i64 (t1715.length : Int)), (13, .int .i64 (s2201.1 : Int)), (26, .bool t2642.1)] ∧ Grid hd2645 as2646 t2642.2 ∧ hd2645.length = hd440.length) ?_ ?_
       ·refine rg (fb 1 U116 rfl rfl rfl rfl Z3 (ld G3 rfl rfl (((sS 0 rfl hK2438).drop 1).take 1) rfl (ld G3 rfl rfl (sS 2 rfl hK715) rfl (gtI rfl rfl rfl (m1 rfl ?_)))))
        by_cases hb2649 : to_2 < x2432.day
        ·have hr2650 := if_p hb2649 hx2643
         refine gf' hb2649 rfl (gf' hb2649 rfl (gf' hb2649 rfl (gf' hb2649 rfl (pt hb2649 rfl rfl (on ?_)))))
         cases hr2650
         intro a w hS hA
         exact ⟨hd2202, as2203, hS, hA.cut ⟨rfl, rfl, rfl, rfl, rfl, rfl, tv⟩, hG2204, hln2205⟩
        ·have hr2651 := if_n hb2649 hx2643
         refine gt' hb2649 rfl (m1 rfl (gt' hb2649 rfl (ldA G116 Z116 rfl rfl (sS 0 rfl hK2438) rfl (gt' hb2649 rfl ?_))))
         obtain ⟨t2845, hx2846, hr2847⟩ := bd_some hr2651
         refine yl 6 [] (L1 := (54, .agg [.int .i64 x2432.number, .int .i64 x2432.day, .int .u8 x2432.kind, .int .i64 x2432.anchor, .string (bs x2432.text), .int .i64 x2432.new_].toArray) :: _) rfl rfl rfl hT1218 hO1219 rfl rfl rfl (fun v w => (∃ (hd2848 : List Hd) (as2849 : List Adr), v = .bool true ∧ St M W H [K2437, K1212, K714, K711, K9, K5, H] ([(8, Own.list (some ⟨b2435, 0, none⟩) cap1719 116 6 encErratum l1729), (6, Own.blk l1214 (O1217 .ready none)), (7, Own.blk dB1215 (.deferred (some []))), (5, Own.list ad444 cap445 113 1 encV hd2848)] ++ grp 115 3 encentry 1000 as2849 t2845) w ∧ Grid hd2848 as2849 t2845 ∧ hd2848.length = hd440.length)) ?_ ?_
         ·refine rg (va (cs := [.int .i64 x2432.number, .int .i64 x2432.day, .int .u8 x2432.kind, .int .i64 x2432.anchor, .string (bs x2432.text), .int .i64 x2432.new_]) Tryz.zeroValue116 Z116 rfl rfl rfl rfl rfl rfl rfl rfl fun q2852 K2853 hK2854 => (on (bR 6 hO1219 rfl (bk (sq (rg (ld G111 rfl rfl (sS 5 rfl hK10) rfl (fb 3 U116 rfl rfl rfl rfl Z3 (ld G3 rfl rfl (((sS 0 rfl hK2854).drop 3).take 1) rfl ?_)))))))))
          obtain ⟨t3075, hx3076, hr3077⟩ := bd_some hx2846
          refine clI C56 Tryz.func56 rfl Tryz.ntmps56 rfl rfl rfl rfl (fun v w => (v = .tuple [.int .i64 (t3075.2.1 : Int), .int .i64 (t3075.1 : Int), .bool t3075.2.2].toArray ∧ St M W H [K2853, K2437, K1212, K714, K711, K9, K5, H] ([(8, Own.list (some ⟨b2435, 0, none⟩) cap1719 116 6 encErratum l1729), (6, Own.blk l1214 (O1217 .busy none)), (7, Own.blk dB1215 (.deferred (some []))), (5, Own.list ad444 cap445 113 1 encV hd2202)] ++ grp 115 3 encentry 1000 as2203 s2201.2) w)) ?_ ?_
          ·refine sq (rg (a1 rfl (a1 rfl (a1 rfl (on (sc (sq (lb (sq (sq (rg ?_)))))))))))
           refine m1 rfl (nl rfl rfl (fb 5 U110 rfl rfl rfl rfl Z108 (ld G108 rfl rfl ((sS 2 rfl hK1213).drop 5) rfl (lnE (hln2205.symm.trans hG2204.hlen) U108 rfl rfl (m1 rfl (on ?_))))))
           obtain ⟨e3107, hl3108, hr3109⟩ := bd_some hx3076
           refine jn (fun a w => St M W H [K2853, K2437, K1212, K714, K711, K9, K5, H] ([(8, Own.list (some ⟨b2435, 0, none⟩) cap1719 116 6 encErratum l1729), (6, Own.blk l1214 (O1217 .busy none)), (7, Own.blk dB1215 (.deferred (some []))), (5, Own.list ad444 cap445 113 1 encV hd2202)] ++ grp 115 3 encentry 1000 as2203 s2201.2) w ∧ Has [] 40 a [(4, .int .i64 (e3107.1 : Int)), (5, .int .i64 (e3107.2.1 : Int)), (6, .bool e3107.2.2)]) ?_ ?_
           ·refine bk ?_
            refine lp hl3108 (fun s3110 a w => St M W H [K2853, K2437, K1212, K714, K711, K9, K5, H] ([(8, Own.list (some ⟨b2435, 0, none⟩) cap1719 116 6 encErratum l1729), (6, Own.blk l1214 (O1217 .busy none)), (7, Own.blk dB1215 (.deferred (some []))), (5, Own.list ad444 cap445 113 1 encV hd2202)] ++ grp 115 3 encentry 1000 as2203 s2201.2) w ∧ Has [] 40 a [(1, .int .i64 x2432.anchor), (4, .int .i64 (s3110.1 : Int)), (5, .int .i64 (s3110.2.1 : Int)), (6, .bool s3110.2.2.2), (14, .slice ad444 hd440.length cap445), (15, .int .i64 (s2201.2.length : Int)), (16, .int .i64 (s3110.2.2.1 : Int))]) ?_ ?_
            ·exact cu ⟨rfl, rfl, rfl, rfl, rfl, rfl, rfl, tv⟩
            ·rintro j s3110 y3113 hr3111 hz3112 a w ⟨hS, hA⟩
             refine TG.ap ?_ hS hA
             unfold m35_4 at hr3111
             refine sq (rg (ltI rfl rfl rfl (on (sq ?_))))
             refine ci rfl (fun hc3117 => ?_) (fun hc3117 => ?_)
             ·have hr3118 := if_p hc3117 hr3111
              refine sk (sq (bk (sq (rg (m1 rfl ?_)))))
              obtain ⟨x3142, hx3143, hr3144⟩ := bd_some hr3118
              obtain ⟨ad3145, cap3146, ha3147, hh3148⟩ := hG2204.at hx3143
              refine TG.addr 5 rfl (lt_of0 hh3148) fun b3149 h => ?_; subst h
              refine iaP U108 Z113 rfl rfl rfl rfl (Nat.lt_of_lt_of_eq (lt_of hh3148) hln2205) (ld G113 rfl rfl (sE 5 rfl (fun _ => rfl) hh3148) rfl (a1 rfl (a1 rfl (on (sq (rg (m1 rfl (lnL U113 rfl rfl (m1 rfl (on ?_))))))))))
              obtain ⟨e3164, hl3165, hr3166⟩ := bd_some hr3144
              refine jn (fun a w => ∃ t3167, e3164 = .inl t3167 ∧ St M W H [K2853, K2437, K1212, K714, K711, K9, K5, H] ([(8, Own.list (some ⟨b2435, 0, none⟩) cap1719 116 6 encErratum l1729), (6, Own.blk l1214 (O1217 .busy none)), (7, Own.blk dB1215 (.deferred (some []))), (5, Own.list (some ⟨b3149, 0, none⟩) cap445 113 1 encV hd2202)] ++ grp 115 3 encentry 1000 as2203 s2201.2) w ∧ Has [] 40 a [(1, .int .i64 x2432.anchor), (4, .int .i64 (t3167.1 : Int)), (5, .int .i64 (t3167.2.1 : Int)), (6, .bool t3167.2.2), (14, .slice (some ⟨b3149, 0, none⟩) hd440.length cap445), (15, .int .i64 (s2201.2.length : Int)), (16, .int .i64 (s3110.2.2.1 : Int))]) ?_ ?_
              ·refine bk ?_
               refine lp hl3165 (fun s3168 a w => St M W H [K2853, K2437, K1212, K714, K711, K9, K5, H] ([(8, Own.list (some ⟨b2435, 0, none⟩) cap1719 116 6 encErratum l1729), (6, Own.blk l1214 (O1217 .busy none)), (7, Own.blk dB1215 (.deferred (some []))), (5, Own.list (some ⟨b3149, 0, none⟩) cap445 113 1 encV hd2202)] ++ grp 115 3 encentry 1000 as2203 s2201.2) w ∧ Has [] 40 a [(1, .int .i64 x2432.anchor), (4, .int .i64 (s3168.1 : Int)), (5, .int .i64 (s3168.2.1 : Int)), (6, .bool s3168.2.2.2), (7, .int .i64 (s3110.2.2.1 : Int)), (14, .slice (some ⟨b3149, 0, none⟩) hd440.length cap445), (15, .int .i64 (s2201.2.length : Int)), (16, .int .i64 (s3110.2.2.1 : Int)), (21, .slice ad3145 x3142.length cap3146), (22, .int .i64 (x3142.length : Int)), (23, .int .i64 (s3168.2.2.1 : Int))]) ?_ ?_
               ·exact cu ⟨rfl, rfl, rfl, rfl, rfl, rfl, rfl, rfl, rfl, rfl, rfl, tv⟩
               ·rintro j s3168 y3171 hr3169 hz3170 a w ⟨hS, hA⟩
                refine TG.ap ?_ hS hA
                unfold m35_5 at hr3169
                refine sq (rg (ltI rfl rfl rfl (on (sq ?_))))
                refine ci rfl (fun hc3175 => ?_) (fun hc3175 => ?_)
                ·have hr3176 := if_p hc3175 hr3169
                 refine sk (sq (bk (sq (rg (m1 rfl ?_)))))
                 obtain ⟨x3185, hx3186, hr3187⟩ := bd_some hr3176
                 refine TG.addr (1000 + s3110.2.2.1) (gk rfl (gk rfl (gk rfl (gk rfl (gget ha3147 hx3143))))) (lt_of0 hx3186) fun b3188 h => ?_; subst h
                 refine iaP U113 Z115 rfl rfl rfl rfl (lt_of hx3186) (ldA G115 Z115 rfl rfl (sE (enc := encentry) (size := 3) (1000 + s3110.2.2.1) (gk rfl (gk rfl (gk rfl (gk rfl (gget ha3147 hx3143))))) (fun _ => rfl) hx3186) rfl (al 9 (cs := [.int .i64 0, .string (bs []), .bool false]) Tryz.zeroValue115 rfl rfl fun b3189 => (a1 rfl (sto 9 (cs := [.int .i64 x3185.paragraph.anchor, .string (bs x3185.paragraph.text), .bool x3185.removed]) Z115 rfl rfl rfl rfl rfl rfl rfl (on (sq (rg (fb 0 U115 rfl rfl rfl rfl Z52 (fb 0 U52 rfl rfl rfl rfl Z3 (ld G3 rfl rfl ((sO 9 rfl).take 1) rfl (m1 rfl ?_)))))))))))
                 refine eqI rfl rfl rfl (on ?_)
                 refine ci rfl (fun hc3193 => ?_) (fun hc3193 => ?_)
                 ·have hr3194 := if_p hc3193 hr3187
                  refine sq (rg (m1 rfl (m1 rfl (a1 rfl (a1 rfl (a1 rfl (on (xt rfl ?_))))))))
                  obtain ⟨z3195, hr3196, rfl⟩ := mp_some hr3194
                  obtain rfl := Fin.out hz3170
                  cases hr3166
                  refine TG.del 9 ?_
                  cases hr3196
                  obtain rfl := Fin.out hz3112
                  exact cu ⟨rfl, rfl, rfl, tv⟩
                 ·have hr3197 := if_n hc3193 hr3187
                  refine sk (rg ?_)
                  obtain ⟨hk3198, hr3199⟩ := chk_some hr3197
                  refine adI rfl rfl rfl hk3198 (m1 rfl (on (TG.del 9 ?_)))
                  cases hr3199
                  intro a w hS hA
                  exact ⟨_, hz3170, hS, hA.cut ⟨rfl, rfl, rfl, rfl, rfl, rfl, rfl, rfl, rfl, rfl, rfl, tv⟩⟩
                ·have hr3200 := if_n hc3175 hr3169
                 refine xt rfl ?_
                 cases hr3200
                 obtain rfl := Fin.out hz3170
                 intro a w hS hA
                 exact ⟨_, rfl, hS, hA.cut ⟨rfl, rfl, rfl, rfl, rfl, rfl, rfl, tv⟩⟩
              ·rintro a w ⟨t3167, rfl, hS, hA⟩
               refine TG.ap ?_ hS hA
               refine rg ?_
               obtain ⟨hk3201, hr3202⟩ := chk_some hr3166
               refine adI rfl rfl rfl hk3201 (m1 rfl (on ?_))
               cases hr3202
               intro a w hS hA
               exact ⟨_, hz3112, hS, hA.cut ⟨rfl, rfl, rfl, rfl, rfl, rfl, rfl, tv⟩⟩
             ·have hr3203 := if_n hc3117 hr3111
              refine xt rfl ?_
              cases hr3203
              obtain rfl := Fin.out hz3112
              exact cu ⟨rfl, rfl, rfl, tv⟩
           ·rintro a w ⟨hS, hA⟩
            refine TG.ap ?_ hS hA
            refine sq (rg (m1 rfl (m1 rfl (m1 rfl (a1 rfl (a1 rfl (a1 rfl (on (rt_ ?_)))))))))
            cases hr3109
            intro a w hS hA
            refine ret3 hA rfl rfl rfl rfl ?_
            exact ⟨_, rfl, ⟨rfl, hS⟩⟩
          ·rintro a w v hA (⟨rfl, hS⟩)
           refine putK rfl hA hS (m1 rfl (ex rfl rfl rfl (ex rfl rfl rfl (ex rfl rfl rfl (a1 rfl (a1 rfl (a1 rfl (on (sq (rg (m1 rfl ?_)))))))))))
           refine on ?_
           obtain ⟨t3356, hx3357, hr3358⟩ := bd_some hr3077
           refine jn (fun a w => ∃ (hd3359 : List Hd) (as3360 : List Adr), St M W H [K2853, K2437, K1212, K714, K711, K9, K5, H] ([(8, Own.list (some ⟨b2435, 0, none⟩) cap1719 116 6 encErratum l1729), (6, Own.blk l1214 (O1217 .busy none)), (7, Own.blk dB1215 (.deferred (some []))), (5, Own.list ad444 cap445 113 1 encV hd3359)] ++ grp 115 3 encentry 1000 as3360 t3356) w ∧ Has [] 76 a [] ∧ Grid hd3359 as3360 t3356 ∧ hd3359.length = hd440.length) ?_ ?_
           ·refine cb rfl (fun hc3363 => ?_) (fun hc3363 => ?_)
            ·have hr3364 := if_p hc3363 hx3357
             obtain ⟨r3365, hx3366, hr3367⟩ := bd_some hr3364
             obtain ⟨hk3373, hr3374⟩ := chk_some hr3367
             by_cases hb3375 : x2432.kind = 0
             ·have hr3376 := if_p hb3375 hr3374
              refine drG 10 mixed (by kernel_rfl) rfl ?_
              refine DF.und (α := Addr) default (fun q => .slice (some q) 3 3) (fun (q : Addr) K => CellsAt K q [.func (.func 89) [].toArray [].toArray, .func (.func 90) [].toArray [].toArray, .func (.func 91) [].toArray [].toArray]) (fun _ _ _ h x => x.mono h) (by kernel_rfl) rfl (fun a w K hS hA hF => TG.pa hS hA (clK C57 rfl rfl rfl rfl (fun w H hH le => w57 hH hx3366) (by
                rintro v_ K3377 ⟨q3378, rfl, hK3379⟩
                exact finU (f := fun q => .slice (some q) 3 3) (G := (fun (q : Addr) K => CellsAt K q [.func (.func 89) [].toArray [].toArray, .func (.func 90) [].toArray [].toArray, .func (.func 91) [].toArray [].toArray])) _ (fun _ _ _ h x => x.mono h) hK3379))) fun q3381 => ?_
              refine dt rfl (fb 2 U116 rfl rfl rfl rfl Z5 fin1) (dt rfl (ld G5 rfl rfl (((sS 1 rfl hK2854).drop 2).take 1) rfl fin1) (DF.und () (fun _ => .pointer (some (q3381.add (0 * 1)))) (fun _ K => CellsAt K (q3381.add (0 * 1)) [.func (.func 89) [].toArray [].toArray, .func (.func 90) [].toArray [].toArray, .func (.func 91) [].toArray [].toArray]) (fun _ _ _ h x => x.mono h) (by kernel_rfl) rfl (fun a w K hS hA hF => TG.pa hS hA (iaP (j := 0) U169 Z168 rfl rfl rfl (by omega) (by decide) (finF (f := fun _ => .pointer (some (q3381.add (0 * 1)))) (G := fun _ K => CellsAt K (q3381.add (0 * 1)) [.func (.func 89) [].toArray [].toArray, .func (.func 90) [].toArray [].toArray, .func (.func 91) [].toArray [].toArray]) () ((hF.1 rfl).drop (0 * 1))))) fun _ => (DF.und () (fun _ => .pointer (some (q3381.add (0 * 1)))) (fun _ K => CellsAt K (q3381.add (0 * 1)) [.func (.func 89) [].toArray [].toArray, .func (.func 90) [].toArray [].toArray, .func (.func 91) [].toArray [].toArray]) (fun _ _ _ h x => x.mono h) (by kernel_rfl) rfl (fun a w K hS hA hF => TG.pa hS hA (fb 0 U168 rfl rfl rfl rfl Z166 (finF (f := fun _ => .pointer (some (q3381.add (0 * 1)))) (G := fun _ K => CellsAt K (q3381.add (0 * 1)) [.func (.func 89) [].toArray [].toArray, .func (.func 90) [].toArray [].toArray, .func (.func 91) [].toArray [].toArray]) () (hF.1 rfl)))) fun _ => (DF.det rfl (fun a w K hS hA hF => TG.pa hS hA (ld G166 rfl rfl ((sS 0 rfl (hF.1 rfl)).take 1) rfl fin1)) (dt rfl (ld G111 rfl rfl (sS 6 rfl hK10) rfl fin1) (dt rfl (m1 rfl fin1) (dt rfl (m1 rfl fin1) (dt rfl (ldA G116 Z116 rfl rfl (sS 1 rfl hK2854) rfl fin1) (DF.nil fun K3384 hF => ?_)))))))))
              obtain ⟨hu3383, hu3382, hu3380, _⟩ := hF
              obtain ⟨t3409, hx3410, hr3411⟩ := bd_some hr3376
              refine clI C89 Tryz.func89 rfl Tryz.ntmps89 rfl rfl rfl rfl (fun v w => (∃ (hd3412 : List Hd) (as3413 : List Adr), v = .tuple #[] ∧ St M W H [K3384, K2853, K2437, K1212, K714, K711, K9, K5, H] ([(8, Own.list (some ⟨b2435, 0, none⟩) cap1719 116 6 encErratum l1729), (6, Own.blk l1214 (O1217 .busy none)), (7, Own.blk dB1215 (.deferred (some []))), (5, Own.list ad444 cap445 113 1 encV hd3412)] ++ grp 115 3 encentry 1000 as3413 t3409) w ∧ Grid hd3412 as3413 t3409 ∧ hd3412.length = hd440.length)) ?_ ?_
              ·refine sq (rg (bI (cs := [.int .i64 x2432.number, .int .i64 x2432.day, .int .u8 x2432.kind, .int .i64 x2432.anchor, .string (bs x2432.text), .int .i64 x2432.new_]) rfl rfl rfl fun q3416 K3417 hK3418 => (on (sq (rg (m1 rfl (nl rfl rfl (fb 5 U110 rfl rfl rfl rfl Z108 (ld G108 rfl rfl ((sS 4 rfl hK1213).drop 5) rfl (m1 rfl ?_))))))))))
               obtain ⟨x3419, hx3420, hr3421⟩ := bd_some hx3410
               obtain ⟨ad3422, cap3423, ha3424, hh3425⟩ := hG2204.at hx3420
               refine TG.addr 5 rfl (lt_of0 hh3425) fun b3426 h => ?_; subst h
               refine iaP U108 Z113 rfl rfl rfl rfl (Nat.lt_of_lt_of_eq (lt_of hh3425) hln2205) (ld G113 rfl rfl (sE 5 rfl (fun _ => rfl) hh3425) rfl (m1 rfl ?_))
               obtain ⟨x3427, hx3428, hr3429⟩ := bd_some hr3421
               refine TG.addr (1000 + t3075.2.1) (gk rfl (gk rfl (gk rfl (gk rfl (gget ha3424 hx3420))))) (lt_of0 hx3428) fun b3430 h => ?_; subst h
               refine iaP U113 Z115 rfl rfl rfl rfl (lt_of hx3428) (a1 rfl (on (sq (rg (m1 rfl (nl rfl rfl (fb 2 U115 rfl rfl rfl rfl Z4 (ld G4 rfl rfl ((sE (enc := encentry) (size := 3) (1000 + t3075.2.1) (gk rfl (gk rfl (gk rfl (gk rfl (gget ha3424 hx3420))))) (fun _ => rfl) hx3428).drop 2) rfl (nt rfl rfl (on ?_))))))))))
               obtain ⟨t3435, hx3436, hr3437⟩ := bd_some hr3429
               refine jn (fun a w => ∃ (hd3438 : List Hd) (as3439 : List Adr), St M W H [K3417, K3384, K2853, K2437, K1212, K714, K711, K9, K5, H] ([(8, Own.list (some ⟨b2435, 0, none⟩) cap1719 116 6 encErratum l1729), (6, Own.blk l1214 (O1217 .busy none)), (7, Own.blk dB1215 (.deferred (some []))), (5, Own.list (some ⟨b3426, 0, none⟩) cap445 113 1 encV hd3438)] ++ grp 115 3 encentry 1000 as3439 t3435) w ∧ Has [] 29 a [] ∧ Grid hd3438 as3439 t3435 ∧ hd3438.length = hd440.length) ?_ ?_
               ·refine cb rfl (fun hc3442 => ?_) (fun hc3442 => ?_)
                ·replace hc3442 := nbt hc3442
                 have hr3443 := if_f hc3442 hx3436
                 refine rg (m1 rfl (fb 4 U116 rfl rfl rfl rfl Z9 (ld G9 rfl rfl (((sS 0 rfl hK3418).drop 4).take 1) rfl (nl rfl rfl (fb 0 U115 rfl rfl rfl rfl Z52 (fb 1 U52 rfl rfl rfl rfl Z9 (stE (enc := encentry) (1000 + t3075.2.1) (⟨(⟨x3427.paragraph.anchor, x2432.text⟩ : Paragraph), x3427.removed⟩ : entry) (q := ⟨b3430, 0, none⟩) (j := t3075.1) (size := 3) (cs := [.string (bs x2432.text)]) (off := 1) Z9 (ad3 (b := 0) (c := 1) rfl) rfl (gk rfl (gk rfl (gk rfl (gk rfl (gget ha3424 hx3420))))) (fun _ => rfl) hx3428 rfl rfl rfl rfl rfl (TG.eq (zk rfl (zk rfl (zk rfl (zk rfl (gset ha3424))))) ?_))))))))
                 have hG3444 := hG2204.put hx3420 (lenS x3419 t3075.1 (⟨(⟨x3427.paragraph.anchor, x2432.text⟩ : Paragraph), x3427.removed⟩ : entry))
                 refine on ?_
                 cases hr3443
                 intro a w hS hA
                 exact ⟨hd2202, as2203, hS, hA.cut tv, hG3444, hln2205⟩
                ·replace hc3442 := nbf hc3442
                 have hr3445 := if_p hc3442 hx3436
                 refine sk ?_
                 cases hr3445
                 intro a w hS hA
                 exact ⟨hd2202, as2203, hS, hA.cut tv, hG2204, hln2205⟩
               ·rintro a w ⟨hd3438, as3439, hS, hA, hG3440, hln3441⟩
                refine TG.ap ?_ hS hA
                cases hr3437
                intro a w hS hA
                refine ret0 hA rfl ?_
                exact ⟨_, rfl, ⟨hd3438, as3439, rfl, hS.selH [1, 2, 3, 4, 5, 6, 7, 8, 9] rfl, hG3440, hln3441⟩⟩
              ·rintro a w v hA (⟨hd3412, as3413, rfl, hS, hG3414, hln3415⟩)
               refine putK rfl hA hS (on ?_)
               cases hr3411
               intro a w hS hA
               exact ⟨hd3412, as3413, hS.selH [1, 2, 3, 4, 5, 6, 7, 8] rfl, hA.cut tv, hG3414, hln3415⟩
             ·have hr3446 := if_n hb3375 hr3374
              by_cases hb3452 : x2432.kind = 1
              ·have hr3453 := if_p hb3452 hr3446
               refine drG 10 mixed (by kernel_rfl) rfl ?_
               refine DF.und (α := Addr) default (fun q => .slice (some q) 3 3) (fun (q : Addr) K => CellsAt K q [.func (.func 89) [].toArray [].toArray, .func (.func 90) [].toArray [].toArray, .func (.func 91) [].toArray [].toArray]) (fun _ _ _ h x => x.mono h) (by kernel_rfl) rfl (fun a w K hS hA hF => TG.pa hS hA (clK C57 rfl rfl rfl rfl (fun w H hH le => w57 hH hx3366) (by
                 rintro v_ K3454 ⟨q3455, rfl, hK3456⟩
                 exact finU (f := fun q => .slice (some q) 3 3) (G := (fun (q : Addr) K => CellsAt K q [.func (.func 89) [].toArray [].toArray, .func (.func 90) [].toArray [].toArray, .func (.func 91) [].toArray [].toArray])) _ (fun _ _ _ h x => x.mono h) hK3456))) fun q3458 => ?_
               refine dt rfl (fb 2 U116 rfl rfl rfl rfl Z5 fin1) (dt rfl (ld G5 rfl rfl (((sS 1 rfl hK2854).drop 2).take 1) rfl fin1) (DF.und () (fun _ => .pointer (some (q3458.add (1 * 1)))) (fun _ K => CellsAt K (q3458.add (1 * 1)) [.func (.func 90) [].toArray [].toArray, .func (.func 91) [].toArray [].toArray]) (fun _ _ _ h x => x.mono h) (by kernel_rfl) rfl (fun a w K hS hA hF => TG.pa hS hA (iaP (j := 1) U169 Z168 rfl rfl rfl (by omega) (by decide) (finF (f := fun _ => .pointer (some (q3458.add (1 * 1)))) (G := fun _ K => CellsAt K (q3458.add (1 * 1)) [.func (.func 90) [].toArray [].toArray, .func (.func 91) [].toArray [].toArray]) () ((hF.1 rfl).drop (1 * 1))))) fun _ => (DF.und () (fun _ => .pointer (some (q3458.add (1 * 1)))) (fun _ K => CellsAt K (q3458.add (1 * 1)) [.func (.func 90) [].toArray [].toArray, .func (.func 91) [].toArray [].toArray]) (fun _ _ _ h x => x.mono h) (by kernel_rfl) rfl (fun a w K hS hA hF => TG.pa hS hA (fb 0 U168 rfl rfl rfl rfl Z166 (finF (f := fun _ => .pointer (some (q3458.add (1 * 1)))) (G := fun _ K => CellsAt K (q3458.add (1 * 1)) [.func (.func 90) [].toArray [].toArray, .func (.func 91) [].toArray [].toArray]) () (hF.1 rfl)))) fun _ => (DF.det rfl (fun a w K hS hA hF => TG.pa hS hA (ld G166 rfl rfl ((sS 0 rfl (hF.1 rfl)).take 1) rfl fin1)) (dt rfl (ld G111 rfl rfl (sS 6 rfl hK10) rfl fin1) (dt rfl (m1 rfl fin1) (dt rfl (m1 rfl fin1) (dt rfl (ldA G116 Z116 rfl rfl (sS 1 rfl hK2854) rfl fin1) (DF.nil fun K3461 hF => ?_)))))))))
               obtain ⟨hu3460, hu3459, hu3457, _⟩ := hF
               obtain ⟨t3478, hx3479, hr3480⟩ := bd_some hr3453
               refine clI C90 Tryz.func90 rfl Tryz.ntmps90 rfl rfl rfl rfl (fun v w => (∃ (hd3481 : List Hd) (as3482 : List Adr), v = .tuple #[] ∧ St M W H [K3461, K2853, K2437, K1212, K714, K711, K9, K5, H] ([(8, Own.list (some ⟨b2435, 0, none⟩) cap1719 116 6 encErratum l1729), (6, Own.blk l1214 (O1217 .busy none)), (7, Own.blk dB1215 (.deferred (some []))), (5, Own.list ad444 cap445 113 1 encV hd3481)] ++ grp 115 3 encentry 1000 as3482 t3478) w ∧ Grid hd3481 as3482 t3478 ∧ hd3481.length = hd440.length)) ?_ ?_
               ·refine sq (rg (bI (cs := [.int .i64 x2432.number, .int .i64 x2432.day, .int .u8 x2432.kind, .int .i64 x2432.anchor, .string (bs x2432.text), .int .i64 x2432.new_]) rfl rfl rfl fun q3485 K3486 hK3487 => (on (rg (m1 rfl (nl rfl rfl (fb 5 U110 rfl rfl rfl rfl Z108 (ld G108 rfl rfl ((sS 4 rfl hK1213).drop 5) rfl (m1 rfl ?_)))))))))
                obtain ⟨x3488, hx3489, hr3490⟩ := bd_some hx3479
                obtain ⟨ad3491, cap3492, ha3493, hh3494⟩ := hG2204.at hx3489
                refine TG.addr 5 rfl (lt_of0 hh3494) fun b3495 h => ?_; subst h
                refine iaP U108 Z113 rfl rfl rfl rfl (Nat.lt_of_lt_of_eq (lt_of hh3494) hln2205) (ld G113 rfl rfl (sE 5 rfl (fun _ => rfl) hh3494) rfl (m1 rfl ?_))
                obtain ⟨x3496, hx3497, hr3498⟩ := bd_some hr3490
                refine TG.addr (1000 + t3075.2.1) (gk rfl (gk rfl (gk rfl (gk rfl (gget ha3493 hx3489))))) (lt_of0 hx3497) fun b3499 h => ?_; subst h
                refine iaP U113 Z115 rfl rfl rfl rfl (lt_of hx3497) (fb 2 U115 rfl rfl rfl rfl Z4 (stE (enc := encentry) (1000 + t3075.2.1) (⟨x3496.paragraph, true⟩ : entry) (q := ⟨b3499, 0, none⟩) (j := t3075.1) (size := 3) (cs := [.bool true]) (off := 2) Z4 (ad2 (b := 2) rfl) rfl (gk rfl (gk rfl (gk rfl (gk rfl (gget ha3493 hx3489))))) (fun _ => rfl) hx3497 rfl rfl rfl rfl rfl (TG.eq (zk rfl (zk rfl (zk rfl (zk rfl (gset ha3493))))) ?_)))
                have hG3500 := hG2204.put hx3489 (lenS x3488 t3075.1 (⟨x3496.paragraph, true⟩ : entry))
                refine on ?_
                cases hr3498
                intro a w hS hA
                refine ret0 hA rfl ?_
                exact ⟨_, rfl, ⟨hd2202, as2203, rfl, hS.selH [1, 2, 3, 4, 5, 6, 7, 8, 9] rfl, hG3500, hln2205⟩⟩
               ·rintro a w v hA (⟨hd3481, as3482, rfl, hS, hG3483, hln3484⟩)
                refine putK rfl hA hS (on ?_)
                cases hr3480
                intro a w hS hA
                exact ⟨hd3481, as3482, hS.selH [1, 2, 3, 4, 5, 6, 7, 8] rfl, hA.cut tv, hG3483, hln3484⟩
              ·have hr3501 := if_n hb3452 hr3446
               by_cases hb3507 : x2432.kind = 2
               ·have hr3508 := if_p hb3507 hr3501
                refine drG 10 mixed (by kernel_rfl) rfl ?_
                refine DF.und (α := Addr) default (fun q => .slice (some q) 3 3) (fun (q : Addr) K => CellsAt K q [.func (.func 89) [].toArray [].toArray, .func (.func 90) [].toArray [].toArray, .func (.func 91) [].toArray [].toArray]) (fun _ _ _ h x => x.mono h) (by kernel_rfl) rfl (fun a w K hS hA hF => TG.pa hS hA (clK C57 rfl rfl rfl rfl (fun w H hH le => w57 hH hx3366) (by
                  rintro v_ K3509 ⟨q3510, rfl, hK3511⟩
                  exact finU (f := fun q => .slice (some q) 3 3) (G := (fun (q : Addr) K => CellsAt K q [.func (.func 89) [].toArray [].toArray, .func (.func 90) [].toArray [].toArray, .func (.func 91) [].toArray [].toArray])) _ (fun _ _ _ h x => x.mono h) hK3511))) fun q3513 => ?_
                refine dt rfl (fb 2 U116 rfl rfl rfl rfl Z5 fin1) (dt rfl (ld G5 rfl rfl (((sS 1 rfl hK2854).drop 2).take 1) rfl fin1) (DF.und () (fun _ => .pointer (some (q3513.add (2 * 1)))) (fun _ K => CellsAt K (q3513.add (2 * 1)) [.func (.func 91) [].toArray [].toArray]) (fun _ _ _ h x => x.mono h) (by kernel_rfl) rfl (fun a w K hS hA hF => TG.pa hS hA (iaP (j := 2) U169 Z168 rfl rfl rfl (by omega) (by decide) (finF (f := fun _ => .pointer (some (q3513.add (2 * 1)))) (G := fun _ K => CellsAt K (q3513.add (2 * 1)) [.func (.func 91) [].toArray [].toArray]) () ((hF.1 rfl).drop (2 * 1))))) fun _ => (DF.und () (fun _ => .pointer (some (q3513.add (2 * 1)))) (fun _ K => CellsAt K (q3513.add (2 * 1)) [.func (.func 91) [].toArray [].toArray]) (fun _ _ _ h x => x.mono h) (by kernel_rfl) rfl (fun a w K hS hA hF => TG.pa hS hA (fb 0 U168 rfl rfl rfl rfl Z166 (finF (f := fun _ => .pointer (some (q3513.add (2 * 1)))) (G := fun _ K => CellsAt K (q3513.add (2 * 1)) [.func (.func 91) [].toArray [].toArray]) () (hF.1 rfl)))) fun _ => (DF.det rfl (fun a w K hS hA hF => TG.pa hS hA (ld G166 rfl rfl (sS 0 rfl (hF.1 rfl)) rfl fin1)) (dt rfl (ld G111 rfl rfl (sS 6 rfl hK10) rfl fin1) (dt rfl (m1 rfl fin1) (dt rfl (m1 rfl fin1) (dt rfl (ldA G116 Z116 rfl rfl (sS 1 rfl hK2854) rfl fin1) (DF.nil fun K3516 hF => ?_)))))))))
                obtain ⟨hu3515, hu3514, hu3512, _⟩ := hF
                obtain ⟨t3547, hx3548, hr3549⟩ := bd_some hr3508
                refine clI C91 Tryz.func91 rfl Tryz.ntmps91 rfl rfl rfl rfl (fun v w => (∃ (hd3550 : List Hd) (as3551 : List Adr), v = .tuple #[] ∧ St M W H [K3516, K2853, K2437, K1212, K714, K711, K9, K5, H] ([(8, Own.list (some ⟨b2435, 0, none⟩) cap1719 116 6 encErratum l1729), (6, Own.blk l1214 (O1217 .busy none)), (7, Own.blk dB1215 (.deferred (some []))), (5, Own.list ad444 cap445 113 1 encV hd3550)] ++ grp 115 3 encentry 1000 as3551 t3547) w ∧ Grid hd3550 as3551 t3547 ∧ hd3550.length = hd440.length)) ?_ ?_
                ·refine sq (rg (bI (cs := [.int .i64 x2432.number, .int .i64 x2432.day, .int .u8 x2432.kind, .int .i64 x2432.anchor, .string (bs x2432.text), .int .i64 x2432.new_]) rfl rfl rfl fun q3554 K3555 hK3556 => (on ?_)))
                 obtain ⟨x3557, hx3558, hr3559⟩ := bd_some hx3548
                 obtain ⟨ad3560, cap3561, ha3562, hh3563⟩ := hG2204.at hx3558
                 refine TG.addr 5 rfl (lt_of0 hh3563) fun b3564 h => ?_; subst h
                 obtain ⟨hk3565, hr3566⟩ := chk_some hr3559
                 refine TG.focus [(8, Own.list (some ⟨b2435, 0, none⟩) cap1719 116 6 encErratum l1729), (6, Own.blk l1214 (O1217 .busy none)), (7, Own.blk dB1215 (.deferred (some []))), (5, Own.list (some ⟨b3564, 0, none⟩) cap445 113 1 encV hd2202)] 10 (b := 1000) ha3562 hx3558 ?_
                 obtain ⟨hk3575, hr3576⟩ := chk_some hr3566
                 obtain ⟨hk3577, hr3578⟩ := chk_some hr3576
                 refine drG2 22 21 mixed (by kernel_rfl) rfl rfl (DG.detA rfl rfl rfl (fun τ a w K hS hA hF => TG.pa hS hA (m1 rfl fin1)) (DG.detA rfl rfl rfl (fun τ a w K hS hA hF => TG.pa hS hA (nl rfl rfl fin1)) (DG.detA rfl rfl rfl (fun τ a w K hS hA hF => TG.pa hS hA (fb 5 U110 rfl rfl rfl rfl Z108 fin1)) (DG.detA rfl rfl rfl (fun τ a w K hS hA hF => TG.pa hS hA (ld G108 rfl rfl ((sS 5 rfl hK1213).drop 5) rfl fin1)) (DG.detA rfl rfl rfl (fun τ a w K hS hA hF => TG.pa hS hA (m1 rfl fin1)) (DG.det (fun τ => τ = ([(10, Own.list ad3560 cap3561 115 3 encentry x3557), (8, Own.list (some ⟨b2435, 0, none⟩) cap1719 116 6 encErratum l1729), (6, Own.blk l1214 (O1217 .busy none)), (7, Own.blk dB1215 (.deferred (some []))), (5, Own.list (some ⟨b3564, 0, none⟩) cap445 113 1 encV hd2202)] ++ grp 115 3 encentry 1000 (as2203.set t3075.2.1 (none, 0)) (s2201.2.set t3075.2.1 []))) rfl rfl (.inr (by kernel_rfl)) (fun _ h => by cases h) rfl rfl (fun τ hτ a w K hS hA hF => by subst hτ <;> exact TG.pa hS hA (m1 rfl fin1)) (DG.det (fun τ => τ = ([(10, Own.list ad3560 cap3561 115 3 encentry x3557), (8, Own.list (some ⟨b2435, 0, none⟩) cap1719 116 6 encErratum l1729), (6, Own.blk l1214 (O1217 .busy none)), (7, Own.blk dB1215 (.deferred (some []))), (5, Own.list (some ⟨b3564, 0, none⟩) cap445 113 1 encV hd2202)] ++ grp 115 3 encentry 1000 (as2203.set t3075.2.1 (none, 0)) (s2201.2.set t3075.2.1 []))) rfl rfl (.inr (by kernel_rfl)) (fun _ h => by cases h) rfl rfl (fun τ hτ a w K hS hA hF => by subst hτ <;> exact TG.pa hS hA (nl rfl rfl fin1)) (DG.det (fun τ => τ = ([(10, Own.list ad3560 cap3561 115 3 encentry x3557), (8, Own.list (some ⟨b2435, 0, none⟩) cap1719 116 6 encErratum l1729), (6, Own.blk l1214 (O1217 .busy none)), (7, Own.blk dB1215 (.deferred (some []))), (5, Own.list (some ⟨b3564, 0, none⟩) cap445 113 1 encV hd2202)] ++ grp 115 3 encentry 1000 (as2203.set t3075.2.1 (none, 0)) (s2201.2.set t3075.2.1 []))) rfl rfl (.inr (by kernel_rfl)) (fun _ h => by cases h) rfl rfl (fun τ hτ a w K hS hA hF => by subst hτ <;> exact TG.pa hS hA (fb 5 U110 rfl rfl rfl rfl Z108 fin1)) (DG.det (fun τ => τ = ([(10, Own.list ad3560 cap3561 115 3 encentry x3557), (8, Own.list (some ⟨b2435, 0, none⟩) cap1719 116 6 encErratum l1729), (6, Own.blk l1214 (O1217 .busy none)), (7, Own.blk dB1215 (.deferred (some []))), (5, Own.list (some ⟨b3564, 0, none⟩) cap445 113 1 encV hd2202)] ++ grp 115 3 encentry 1000 (as2203.set t3075.2.1 (none, 0)) (s2201.2.set t3075.2.1 []))) rfl rfl (.inr (by kernel_rfl)) (fun _ h => by cases h) rfl rfl (fun τ hτ a w K hS hA hF => by subst hτ <;> exact TG.pa hS hA (ld G108 rfl rfl ((sS 5 rfl hK1213).drop 5) rfl fin1)) (DG.det (fun τ => τ = ([(10, Own.list ad3560 cap3561 115 3 encentry x3557), (8, Own.list (some ⟨b2435, 0, none⟩) cap1719 116 6 encErratum l1729), (6, Own.blk l1214 (O1217 .busy none)), (7, Own.blk dB1215 (.deferred (some []))), (5, Own.list (some ⟨b3564, 0, none⟩) cap445 113 1 encV hd2202)] ++ grp 115 3 encentry 1000 (as2203.set t3075.2.1 (none, 0)) (s2201.2.set t3075.2.1 []))) rfl rfl (.inr (by kernel_rfl)) (fun _ h => by cases h) rfl rfl (fun τ hτ a w K hS hA hF => by subst hτ <;> exact TG.pa hS hA (m1 rfl fin1)) (DG.det (fun τ => τ = ([(10, Own.list ad3560 cap3561 115 3 encentry x3557), (8, Own.list (some ⟨b2435, 0, none⟩) cap1719 116 6 encErratum l1729), (6, Own.blk l1214 (O1217 .busy none)), (7, Own.blk dB1215 (.deferred (some []))), (5, Own.list (some ⟨b3564, 0, none⟩) cap445 113 1 encV hd2202)] ++ grp 115 3 encentry 1000 (as2203.set t3075.2.1 (none, 0)) (s2201.2.set t3075.2.1 []))) rfl rfl (.inr (by kernel_rfl)) (fun _ h => by cases h) rfl rfl (fun τ hτ a w K hS hA hF => by subst hτ <;> exact TG.pa hS hA (iaP U108 Z113 rfl rfl rfl rfl (Nat.lt_of_lt_of_eq (lt_of hh3563) hln2205) fin1)) ?_)))))))))))
                 refine DG.det (fun τ => τ = ([(10, Own.list ad3560 cap3561 115 3 encentry x3557), (8, Own.list (some ⟨b2435, 0, none⟩) cap1719 116 6 encErratum l1729), (6, Own.blk l1214 (O1217 .busy none)), (7, Own.blk dB1215 (.deferred (some []))), (5, Own.list (some ⟨b3564, 0, none⟩) cap445 113 1 encV hd2202)] ++ grp 115 3 encentry 1000 (as2203.set t3075.2.1 (none, 0)) (s2201.2.set t3075.2.1 []))) rfl rfl (.inr (by kernel_rfl)) (fun _ h => by cases h) rfl rfl (fun τ hτ a w K hS hA hF => by subst hτ <;> exact TG.pa hS hA (ld G113 rfl rfl (sE 5 rfl (fun _ => rfl) hh3563) rfl fin1)) (DG.det (fun τ => τ = ([(10, Own.list ad3560 cap3561 115 3 encentry x3557), (8, Own.list (some ⟨b2435, 0, none⟩) cap1719 116 6 encErratum l1729), (6, Own.blk l1214 (O1217 .busy none)), (7, Own.blk dB1215 (.deferred (some []))), (5, Own.list (some ⟨b3564, 0, none⟩) cap445 113 1 encV hd2202)] ++ grp 115 3 encentry 1000 (as2203.set t3075.2.1 (none, 0)) (s2201.2.set t3075.2.1 []))) rfl rfl (.inr (by kernel_rfl)) (fun _ h => by cases h) rfl rfl (fun τ hτ a w K hS hA hF => by subst hτ <;> exact TG.pa hS hA (m1 rfl fin1)) (DG.det (fun τ => τ = ([(10, Own.list ad3560 cap3561 115 3 encentry x3557), (8, Own.list (some ⟨b2435, 0, none⟩) cap1719 116 6 encErratum l1729), (6, Own.blk l1214 (O1217 .busy none)), (7, Own.blk dB1215 (.deferred (some []))), (5, Own.list (some ⟨b3564, 0, none⟩) cap445 113 1 encV hd2202)] ++ grp 115 3 encentry 1000 (as2203.set t3075.2.1 (none, 0)) (s2201.2.set t3075.2.1 []))) rfl rfl (.inr (by kernel_rfl)) (fun _ h => by cases h) rfl rfl (fun τ hτ a w K hS hA hF => by subst hτ <;> exact TG.pa hS hA (adI rfl rfl rfl hk3565 fin1)) (DG.det (fun τ => τ = ([(10, Own.list ad3560 cap3561 115 3 encentry x3557), (8, Own.list (some ⟨b2435, 0, none⟩) cap1719 116 6 encErratum l1729), (6, Own.blk l1214 (O1217 .busy none)), (7, Own.blk dB1215 (.deferred (some []))), (5, Own.list (some ⟨b3564, 0, none⟩) cap445 113 1 encV hd2202)] ++ grp 115 3 encentry 1000 (as2203.set t3075.2.1 (none, 0)) (s2201.2.set t3075.2.1 []))) rfl rfl (.inr (by kernel_rfl)) (fun _ h => by cases h) rfl rfl (fun τ hτ a w K hS hA hF => by subst hτ <;> exact TG.pa hS hA (fb 5 U116 rfl rfl rfl rfl Z3 fin1)) (DG.det (fun τ => τ = ([(10, Own.list ad3560 cap3561 115 3 encentry x3557), (8, Own.list (some ⟨b2435, 0, none⟩) cap1719 116 6 encErratum l1729), (6, Own.blk l1214 (O1217 .busy none)), (7, Own.blk dB1215 (.deferred (some []))), (5, Own.list (some ⟨b3564, 0, none⟩) cap445 113 1 encV hd2202)] ++ grp 115 3 encentry 1000 (as2203.set t3075.2.1 (none, 0)) (s2201.2.set t3075.2.1 []))) rfl rfl (.inr (by kernel_rfl)) (fun _ h => by cases h) rfl rfl (fun τ hτ a w K hS hA hF => by subst hτ <;> exact TG.pa hS hA (ld G3 rfl rfl ((sS 1 rfl hK3556).drop 5) rfl fin1)) (DG.det (fun τ => τ = ([(10, Own.list ad3560 cap3561 115 3 encentry x3557), (8, Own.list (some ⟨b2435, 0, none⟩) cap1719 116 6 encErratum l1729), (6, Own.blk l1214 (O1217 .busy none)), (7, Own.blk dB1215 (.deferred (some []))), (5, Own.list (some ⟨b3564, 0, none⟩) cap445 113 1 encV hd2202)] ++ grp 115 3 encentry 1000 (as2203.set t3075.2.1 (none, 0)) (s2201.2.set t3075.2.1 []))) rfl rfl (.inr (by kernel_rfl)) (fun _ h => by cases h) rfl rfl (fun τ hτ a w K hS hA hF => by subst hτ <;> exact TG.pa hS hA (fb 4 U116 rfl rfl rfl rfl Z9 fin1)) (DG.det (fun τ => τ = ([(10, Own.list ad3560 cap3561 115 3 encentry x3557), (8, Own.list (some ⟨b2435, 0, none⟩) cap1719 116 6 encErratum l1729), (6, Own.blk l1214 (O1217 .busy none)), (7, Own.blk dB1215 (.deferred (some []))), (5, Own.list (some ⟨b3564, 0, none⟩) cap445 113 1 encV hd2202)] ++ grp 115 3 encentry 1000 (as2203.set t3075.2.1 (none, 0)) (s2201.2.set t3075.2.1 []))) rfl rfl (.inr (by kernel_rfl)) (fun _ h => by cases h) rfl rfl (fun τ hτ a w K hS hA hF => by subst hτ <;> exact TG.pa hS hA (ld G9 rfl rfl (((sS 1 rfl hK3556).drop 4).take 1) rfl fin1)) (DG.det (fun τ => τ = ([(10, Own.list ad3560 cap3561 115 3 encentry x3557), (8, Own.list (some ⟨b2435, 0, none⟩) cap1719 116 6 encErratum l1729), (6, Own.blk l1214 (O1217 .busy none)), (7, Own.blk dB1215 (.deferred (some []))), (5, Own.list (some ⟨b3564, 0, none⟩) cap445 113 1 encV hd2202)] ++ grp 115 3 encentry 1000 (as2203.set t3075.2.1 (none, 0)) (s2201.2.set t3075.2.1 []))) rfl rfl (.inr (by kernel_rfl)) (fun _ h => by cases h) rfl rfl (fun τ hτ a w K hS hA hF => by subst hτ <;> exact TG.pa hS hA (bu (cs := [.int .i64 x2432.new_, .string (bs x2432.text)]) T10.B52 rfl rfl rfl fin1)) (DG.det (fun τ => τ = ([(10, Own.list ad3560 cap3561 115 3 encentry x3557), (8, Own.list (some ⟨b2435, 0, none⟩) cap1719 116 6 encErratum l1729), (6, Own.blk l1214 (O1217 .busy none)), (7, Own.blk dB1215 (.deferred (some []))), (5, Own.list (some ⟨b3564, 0, none⟩) cap445 113 1 encV hd2202)] ++ grp 115 3 encentry 1000 (as2203.set t3075.2.1 (none, 0)) (s2201.2.set t3075.2.1 []))) rfl rfl (.inr (by kernel_rfl)) (fun _ h => by cases h) rfl rfl (fun τ hτ a w K hS hA hF => by subst hτ <;> exact TG.pa hS hA (bu (cs := [.int .i64 x2432.new_, .string (bs x2432.text), .bool false]) T10.B115 rfl rfl rfl fin1)) ?_))))))))
                 refine DG.und (α := Option Addr × Nat) (none, 0) (fun q => .slice q.1 1 q.2) (fun (q : Option Addr × Nat) K => Sl (Flat encentry) 3 K q.1 q.2 ([(⟨(⟨x2432.new_, x2432.text⟩ : Paragraph), false⟩ : entry)] : List entry)) (fun τ => τ = ([(10, Own.list ad3560 cap3561 115 3 encentry x3557), (8, Own.list (some ⟨b2435, 0, none⟩) cap1719 116 6 encErratum l1729), (6, Own.blk l1214 (O1217 .busy none)), (7, Own.blk dB1215 (.deferred (some []))), (5, Own.list (some ⟨b3564, 0, none⟩) cap445 113 1 encV hd2202)] ++ grp 115 3 encentry 1000 (as2203.set t3075.2.1 (none, 0)) (s2201.2.set t3075.2.1 []))) rfl rfl (.inr (by kernel_rfl)) (fun _ h => by cases h) (fun _ _ _ h x => x.mono (Flat.mono _) h) (by kernel_rfl) rfl rfl (fun τ hτ a w K hS hA hF => by subst hτ <;> exact TG.pa hS hA (bS (cs := [.int .i64 x2432.new_, .string (bs x2432.text), .bool false]) T10.E113 rfl rfl rfl rfl fun q3567 K3568 hq3569 hK3570 => by
                   have hl3571 : Sl (Flat encentry) 3 K3568 (some q3567) 1 ([(⟨(⟨x2432.new_, x2432.text⟩ : Paragraph), false⟩ : entry)] : List entry) := Sl.litR (css := [[.int .i64 x2432.new_, .string (bs x2432.text), .bool false]]) (l := ([(⟨(⟨x2432.new_, x2432.text⟩ : Paragraph), false⟩ : entry)] : List entry)) ⟨⟨rfl, rfl, rfl⟩, tv⟩ hq3569 hK3570 rfl
                   have := hl3571.len
                   exact finU (f := fun q => .slice q.1 1 q.2) (G := (fun (q : Option Addr × Nat) K => Sl (Flat encentry) 3 K q.1 q.2 ([(⟨(⟨x2432.new_, x2432.text⟩ : Paragraph), false⟩ : entry)] : List entry))) (_, _) (fun _ _ _ h x => x.mono (Flat.mono _) h) hl3571)) ?_
                 rintro ⟨ad3573, cap3574⟩
                 refine DG.turn (α := Option Addr × Nat) (none, 0) (fun q => .slice q.1 ((x3557.take (((t3075.1 : Int) + 1).toNat) ++ [(⟨(⟨x2432.new_, x2432.text⟩ : Paragraph), false⟩ : entry)] ++ x3557.drop (((t3075.1 : Int) + 1).toNat)).length) q.2) (fun _ _ => True) (fun q => ([(10, Own.list q.1 q.2 115 3 encentry (x3557.take (((t3075.1 : Int) + 1).toNat) ++ [(⟨(⟨x2432.new_, x2432.text⟩ : Paragraph), false⟩ : entry)] ++ x3557.drop (((t3075.1 : Int) + 1).toNat))), (8, Own.list (some ⟨b2435, 0, none⟩) cap1719 116 6 encErratum l1729), (6, Own.blk l1214 (O1217 .busy none)), (7, Own.blk dB1215 (.deferred (some []))), (5, Own.list (some ⟨b3564, 0, none⟩) cap445 113 1 encV hd2202)] ++ grp 115 3 encentry 1000 (as2203.set t3075.2.1 (none, 0)) (s2201.2.set t3075.2.1 []))) rfl (fun _ _ _ _ h => h) (by kernel_rfl) rfl rfl (fun a w K hS hA hF => TG.pa hS hA (insO 10 (enc := encentry) rfl (fun _ => rfl) (fun _ => rfl) (((t3075.1 : Int) + 1).toNat) (⟨(⟨x2432.new_, x2432.text⟩ : Paragraph), false⟩ : entry) (l := x3557) Tryz.ins92 C92 rfl rfl rfl rfl rfl rfl rfl (hF.1 rfl) 0 rfl (by omega) hk3577 hk3575 fun ad3579 cap3580 => finT (f := fun q => .slice q.1 ((x3557.take (((t3075.1 : Int) + 1).toNat) ++ [(⟨(⟨x2432.new_, x2432.text⟩ : Paragraph), false⟩ : entry)] ++ x3557.drop (((t3075.1 : Int) + 1).toNat)).length) q.2) (G := fun _ _ => True) (σ1 := fun q => ([(10, Own.list q.1 q.2 115 3 encentry (x3557.take (((t3075.1 : Int) + 1).toNat) ++ [(⟨(⟨x2432.new_, x2432.text⟩ : Paragraph), false⟩ : entry)] ++ x3557.drop (((t3075.1 : Int) + 1).toNat))), (8, Own.list (some ⟨b2435, 0, none⟩) cap1719 116 6 encErratum l1729), (6, Own.blk l1214 (O1217 .busy none)), (7, Own.blk dB1215 (.deferred (some []))), (5, Own.list (some ⟨b3564, 0, none⟩) cap445 113 1 encV hd2202)] ++ grp 115 3 encentry 1000 (as2203.set t3075.2.1 (none, 0)) (s2201.2.set t3075.2.1 []))) (_, _) tv)) ?_
                 rintro ⟨ad3579, cap3580⟩
                 refine DG.nil fun K3581 hF => ?_
                 obtain ⟨_, hu3572, _⟩ := hF
                 have := hu3572.len
                 refine iaP U108 Z113 rfl rfl rfl rfl (Nat.lt_of_lt_of_eq (lt_of hh3563) hln2205) (stE 5 (ad3579, (x3557.take (((t3075.1 : Int) + 1).toNat) ++ [(⟨(⟨x2432.new_, x2432.text⟩ : Paragraph), false⟩ : entry)] ++ x3557.drop (((t3075.1 : Int) + 1).toNat)).length, cap3580) (q := ⟨b3564, 0, none⟩) (j := t3075.2.1) (size := 1) (cs := [(Value.slice ad3579 (x3557.take (((t3075.1 : Int) + 1).toNat) ++ [(⟨(⟨x2432.new_, x2432.text⟩ : Paragraph), false⟩ : entry)] ++ x3557.drop (((t3075.1 : Int) + 1).toNat)).length cap3580)]) (off := 0) Z113 rfl rfl rfl (fun _ => rfl) hh3563 rfl rfl rfl rfl rfl (TG.absorb [(10, Own.list ad3579 cap3580 115 3 encentry (x3557.take (((t3075.1 : Int) + 1).toNat) ++ [(⟨(⟨x2432.new_, x2432.text⟩ : Paragraph), false⟩ : entry)] ++ x3557.drop (((t3075.1 : Int) + 1).toNat))), (8, Own.list (some ⟨b2435, 0, none⟩) cap1719 116 6 encErratum l1729), (6, Own.blk l1214 (O1217 .busy none)), (7, Own.blk dB1215 (.deferred (some []))), (5, Own.list (some ⟨b3564, 0, none⟩) cap445 113 1 encV (hd2202.set t3075.2.1 (ad3579, (x3557.take (((t3075.1 : Int) + 1).toNat) ++ [(⟨(⟨x2432.new_, x2432.text⟩ : Paragraph), false⟩ : entry)] ++ x3557.drop (((t3075.1 : Int) + 1).toNat)).length, cap3580)))] (B := [(8, Own.list (some ⟨b2435, 0, none⟩) cap1719 116 6 encErratum l1729), (6, Own.blk l1214 (O1217 .busy none)), (7, Own.blk dB1215 (.deferred (some []))), (5, Own.list (some ⟨b3564, 0, none⟩) cap445 113 1 encV (hd2202.set t3075.2.1 (ad3579, (x3557.take (((t3075.1 : Int) + 1).toNat) ++ [(⟨(⟨x2432.new_, x2432.text⟩ : Paragraph), false⟩ : entry)] ++ x3557.drop (((t3075.1 : Int) + 1).toNat)).length, cap3580)))]) 10 (b := 1000) (j := t3075.2.1) rfl rfl (TG.eq (by rw [List.set_set, List.set_set]) ?_)))
                 have hG3582 := hG2204.new t3075.2.1 (x3557.take (((t3075.1 : Int) + 1).toNat) ++ [(⟨(⟨x2432.new_, x2432.text⟩ : Paragraph), false⟩ : entry)] ++ x3557.drop (((t3075.1 : Int) + 1).toNat)) ad3579 cap3580
                 have hln3583 : (hd2202.set t3075.2.1 (ad3579, (x3557.take (((t3075.1 : Int) + 1).toNat) ++ [(⟨(⟨x2432.new_, x2432.text⟩ : Paragraph), false⟩ : entry)] ++ x3557.drop (((t3075.1 : Int) + 1).toNat)).length, cap3580)).length = hd440.length := (lenS _ _ _).trans hln2205
                 refine on ?_
                 cases hr3578
                 intro a w hS hA
                 refine ret0 hA rfl ?_
                 exact ⟨_, rfl, ⟨(hd2202.set t3075.2.1 (ad3579, (x3557.take (((t3075.1 : Int) + 1).toNat) ++ [(⟨(⟨x2432.new_, x2432.text⟩ : Paragraph), false⟩ : entry)] ++ x3557.drop (((t3075.1 : Int) + 1).toNat)).length, cap3580)), (as2203.set t3075.2.1 (ad3579, cap3580)), rfl, hS.selH [2, 3, 4, 5, 6, 7, 8, 9, 10] rfl, hG3582, hln3583⟩⟩
                ·rintro a w v hA (⟨hd3550, as3551, rfl, hS, hG3552, hln3553⟩)
                 refine putK rfl hA hS (on ?_)
                 cases hr3549
                 intro a w hS hA
                 exact ⟨hd3550, as3551, hS.selH [1, 2, 3, 4, 5, 6, 7, 8] rfl, hA.cut tv, hG3552, hln3553⟩
               ·have hr3584 := if_n hb3507 hr3501
                cases hr3584
            ·have hr3590 := if_f hc3363 hx3357
             refine sk ?_
             cases hr3590
             intro a w hS hA
             exact ⟨hd2202, as2203, hS, hA.cut tv, hG2204, hln2205⟩
           ·rintro a w ⟨hd3359, as3360, hS, hA, hG3361, hln3362⟩
            refine TG.ap ?_ hS hA
            cases hr3358
            refine eR 6 none hO1219 rfl fun w hS => ?_
            exact ⟨hd3359, as3360, rfl, hS.selH [1, 2, 3, 4, 5, 6, 7] rfl, hG3361, hln3362⟩
         ·rintro a w v hA (⟨hd2848, as2849, rfl, hS, hG2850, hln2851⟩)
          refine putK rfl hA hS (gt' hb2649 rfl (nt rfl rfl (pf hb2649 rfl rfl (on ?_))))
          cases hr2847
          intro a w hS hA
          exact ⟨hd2848, as2849, hS, hA.cut ⟨rfl, rfl, rfl, rfl, rfl, rfl, tv⟩, hG2850, hln2851⟩
       ·rintro a w ⟨hd2645, as2646, hS, hA, hG2647, hln2648⟩
        refine TG.ap ?_ hS hA
        refine cb rfl (fun hc3594 => ?_) (fun hc3594 => ?_)
        ·have hr3595 := if_p hc3594 hr2644
         refine rt_ ?_
         cases hr3595
         obtain rfl := Fin.out hz2207
         refine TG.del 8 ?_
         cases hr2195
         intro a w hS hA
         refine ret0 hA rfl ?_
         exact ⟨_, rfl, ⟨hd2645, as2646, hS.selH [1, 2, 3, 4, 5, 6] rfl, hG2647, hln2648⟩⟩
        ·have hr3596 := if_f hc3594 hr2644
         refine sk (rg (adI rfl rfl rfl (by omega) (m1 rfl (on ?_))))
         cases hr3596
         intro a w hS hA
         exact ⟨_, hz2207, hd2645, as2646, hS.selH [1, 2, 3, 4, 5, 6] rfl, hA.cut ⟨rfl, rfl, rfl, rfl, rfl, tv⟩, hG2647, hln2648⟩
      ·have hr3597 := if_n hc2212 hr2206
       refine xt rfl ?_
       cases hr3597
       obtain rfl := Fin.out hz2207
       intro a w hS hA
       exact ⟨_, rfl, hd2202, as2203, hS, hA.cut tv, hG2204, hln2205⟩
    ·rintro a w ⟨t2196, rfl, hd2197, as2198, hS, hA, hG2199, hln2200⟩
     refine TG.ap ?_ hS hA
     refine TG.del 8 ?_
     cases hr2195
     intro a w hS hA
     refine ret0 hA rfl ?_
     exact ⟨_, rfl, ⟨hd2197, as2198, hS, hG2199, hln2200⟩⟩
  ·rintro l1214 dB1215 O1217 tm1216 a w hO1219 hA (⟨hd1704, as1705, hS, hG1706, hln1707⟩)
   refine TG.ap ?_ hS hA
   refine elN 6 hO1219 rfl (sq (rg (ld G111 rfl rfl (sS 3 rfl hK10) rfl (a1 rfl (on (rt_ (TG.stillG [(7, Own.blk dB1215 (.deferred (some []))), (5, Own.list ad444 cap445 113 1 encV hd1704)] (B := [(7, Own.blk dB1215 (.deferred (some [])))]) 5 (b := 1000) hG1706 rfl rfl (fun _ => rfl) fun K3598 hl3599 => ?_)))))))
   have := hl3599.len
   cases hr1703
   refine rtM (rtT 7 rfl (rt0 ?_))
   intro a w hS hA
   refine ret1 hA rfl rfl ?_
   exact ⟨⟨_, _, rfl, (hK1213.mono (hS.grow 1 rfl)), ⟨ad1, cap2, ad444, cap445, (by rw [show hd440.length = t1701.length from (hln1707.symm.trans hG1706.hlen)]), (hl3.mono (RPart.mono) (hS.grow 6 rfl)), (hl3599.mono (RSl.mono (Flat.mono _)) (hS.grow 0 rfl))⟩⟩, hS.ext⟩

theorem w39 {M : Prop} {W : World} {H : Hp} (hH : H.le (hp W)) {cs_v_0 : List Value} (v_0 : Volume) (h_v_0 : (RVolume) H cs_v_0 v_0) {ad_errata : Option Addr} {cap_errata : Nat} {errata : List Erratum} (h_errata : Sl (Flat encErratum) 6 H ad_errata cap_errata errata) {r : List printed} (hr : m39 v_0 errata = some r) : Calls Tryz.prog 39 [.agg cs_v_0.toArray, .slice ad_errata errata.length cap_errata].toArray W (RetK M H W (fun v K => ∃ (ad0 : Option Addr) (cap0 : Nat), v = .slice ad0 r.length cap0 ∧ Sl (Flat encprinted) 6 K ad0 cap0 r)) := by
 have hh_v_0 := h_v_0
 obtain ⟨ad1, cap2, rfl, hl3⟩ := h_v_0
 have := hl3.len
 have := h_errata.len
 unfold m39 at hr
 refine enterG (M := M) Tryz.func39 rfl Tryz.ntmps39 rfl hH ?_
 refine sq (rg (bI (cs := [.int .i64 v_0.number, .int .i64 v_0.bound, .int .i64 v_0.height, .int .i64 v_0.width, .slice ad1 v_0.parts.length cap2]) rfl rfl rfl fun q4 K5 hK6 => (a1 rfl (on (sq (rg (ldA G42 Z42 rfl rfl (sS 0 rfl hK6) rfl (m1 rfl (fb 1 U42 rfl rfl rfl rfl Z3 (ld G3 rfl rfl (((sS 0 rfl hK6).drop 1).take 1) rfl ?_))))))))))
 obtain ⟨r7, hx8, hr9⟩ := bd_some hr
 refine clK C35 rfl rfl rfl rfl (fun w H hH le => w35 hH v_0 (RVolume.mono _ _ _ _ (le.at 1 rfl) hh_v_0) (h_errata.mono (Flat.mono _) (le.at 1 rfl)) v_0.bound hx8) ?_
 rintro v_ K10 ⟨q11, cs12, rfl, hc13, hr14⟩
 have hr15 := hr14
 obtain ⟨ad16, cap17, ad19, cap20, rfl, hl18, hl21⟩ := hr14
 have := hl18.len
 have := hl21.len
 refine a1 rfl (on (sq (rg (a1 rfl (on (sq (sq (rg (m1 rfl (nl rfl rfl (fb 5 U110 rfl rfl rfl rfl Z108 ?_)))))))))))
 refine ld G108 rfl rfl ((sS 0 rfl hc13).drop 5) rfl (lnL U108 rfl rfl (m1 rfl (on (TG.nilRow 2 124 6 (TG.as 2 (z := Own.list none 0 124 6 encprinted ([] : List printed)) rfl rfl ?_)))))
 obtain ⟨e758, hl759, hr760⟩ := bd_some hr9
 refine jn (fun a w => ∃ (ad761 : Option Addr) (cap762 : Nat), St M W H [K10, K5, H] [(2, Own.list ad761 cap762 124 6 encprinted e758)] w ∧ Has [] 93 a [(4, .slice ad761 e758.length cap762)]) ?_ ?_
 ·refine bk ?_
  refine lp hl759 (fun s763 a w => ∃ (ad764 : Option Addr) (cap765 : Nat), St M W H [K10, K5, H] [(2, Own.list ad764 cap765 124 6 encprinted s763.2.2)] w ∧ Has [] 93 a [(2, .pointer (some q4)), (4, .slice ad764 s763.2.2.length cap765), (6, .int .i64 s763.2.1), (22, .slice ad19 r7.parts.length cap20), (23, .int .i64 (r7.parts.length : Int)), (24, .int .i64 (s763.1 : Int))]) ?_ ?_
  ·intro a w hS hA
   exact ⟨none, 0, hS, hA.cut ⟨rfl, rfl, rfl, rfl, rfl, rfl, tv⟩⟩
  ·rintro j s763 y768 hr766 hz767 a w ⟨ad764, cap765, hS, hA⟩
   refine TG.ap ?_ hS hA
   unfold m39_1 at hr766
   refine sq (rg (ltI rfl rfl rfl (on (sq ?_))))
   refine ci rfl (fun hc772 => ?_) (fun hc772 => ?_)
   ·have hr773 := if_p hc772 hr766
    refine sk (sq (bk (sq (rg (m1 rfl ?_)))))
    obtain ⟨x994, hx995, hr996⟩ := bd_some hr773
    obtain ⟨p997, rfl⟩ := hl21.adr hx995
    obtain ⟨cs998, hcs999, hq1000, hr1001⟩ := hl21.at hx995
    have hr1002 := hr1001
    obtain ⟨ad1003, cap1004, rfl, hl1005⟩ := hr1001
    have := hl1005.len
    refine iaP U108 Z113 rfl rfl rfl rfl (lt_of hx995) (ld G113 rfl rfl (sS 0 rfl hq1000) rfl (a1 rfl (a1 rfl (on (sq (rg (a1 rfl (a1 rfl (on (sq (sq ?_)))))))))))
    refine rg (m1 rfl (lnL U113 rfl rfl (m1 rfl (on ?_))))
    obtain ⟨e1203, hl1204, hr1205⟩ := bd_some hr996
    refine jn (fun a w => ∃ (ad1206 : Option Addr) (cap1207 : Nat), St M W H [K10, K5, H] [(2, Own.list ad1206 cap1207 124 6 encprinted e1203.2)] w ∧ Has [] 93 a [(2, .pointer (some q4)), (4, .slice ad1206 e1203.2.length cap1207), (6, .int .i64 s763.2.1), (9, .int .i64 e1203.1), (22, .slice (some p997) r7.parts.length cap20), (23, .int .i64 (r7.parts.length : Int)), (24, .int .i64 (s763.1 : Int))]) ?_ ?_
    ·refine bk ?_
     refine lp hl1204 (fun s1208 a w => ∃ (ad1209 : Option Addr) (cap1210 : Nat), St M W H [K10, K5, H] [(2, Own.list ad1209 cap1210 124 6 encprinted s1208.2.2.2)] w ∧ Has [] 93 a [(2, .pointer (some q4)), (4, .slice ad1209 s1208.2.2.2.length cap1210), (6, .int .i64 s763.2.1), (7, .int .i64 (s763.1 : Int)), (9, .int .i64 s1208.2.2.1), (10, .int .i64 (s1208.1 : Int)), (22, .slice (some p997) r7.parts.length cap20), (23, .int .i64 (r7.parts.length : Int)), (24, .int .i64 (s763.1 : Int)), (29, .slice ad1003 x994.length cap1004), (30, .int .i64 (x994.length : Int)), (31, .int .i64 (s1208.2.1 : Int))]) ?_ ?_
     ·intro a w hS hA
      exact ⟨ad764, cap765, hS, hA.cut ⟨rfl, rfl, rfl, rfl, rfl, rfl, rfl, rfl, rfl, rfl, rfl, rfl, tv⟩⟩
     ·rintro j s1208 y1213 hr1211 hz1212 a w ⟨ad1209, cap1210, hS, hA⟩
      refine TG.ap ?_ hS hA
      unfold m39_2 at hr1211
      refine sq (rg (ltI rfl rfl rfl (on (sq ?_))))
      refine ci rfl (fun hc1217 => ?_) (fun hc1217 => ?_)
      ·have hr1218 := if_p hc1217 hr1211
       refine sk (sq ?_)
       obtain ⟨t1276, hx1277, hr1278⟩ := bd_some hr1218
       refine jn (fun a w => ∃ (ad1279 : Option Addr) (cap1280 : Nat), St M W H [K10, K5, H] [(2, Own.list ad1279 cap1280 124 6 encprinted t1276.2.2)] w ∧ Has [] 93 a [(2, .pointer (some q4)), (4, .slice ad1279 t1276.2.2.length cap1280), (6, .int .i64 s763.2.1), (7, .int .i64 (s763.1 : Int)), (9, .int .i64 t1276.2.1), (10, .int .i64 (t1276.1 : Int)), (22, .slice (some p997) r7.parts.length cap20), (23, .int .i64 (r7.parts.length : Int)), (24, .int .i64 (s763.1 : Int)), (29, .slice ad1003 x994.length cap1004), (30, .int .i64 (x994.length : Int)), (31, .int .i64 (s1208.2.1 : Int))]) ?_ ?_
       ·refine bk (sq (rg ?_))
        obtain ⟨x1281, hx1282, hr1283⟩ := bd_some hx1277
        obtain ⟨p1284, rfl⟩ := hl1005.adr hx1282
        obtain ⟨cs1285, hcs1286, hq1287, hr1288⟩ := hl1005.at hx1282
        obtain rfl := hr1288
        refine iaP U113 Z115 rfl rfl rfl rfl (lt_of hx1282) (ldA G115 Z115 rfl rfl (sS 0 rfl hq1287) rfl (va (cs := [.int .i64 x1281.paragraph.anchor, .string (bs x1281.paragraph.text), .bool x1281.removed]) Tryz.zeroValue115 Z115 rfl rfl rfl rfl rfl rfl rfl rfl fun q1289 K1290 hK1291 => (on (sq (sq (rg (fb 2 U115 rfl rfl rfl rfl Z4 (ld G4 rfl rfl ((sS 0 rfl hK1291).drop 2) rfl (on ?_)))))))))
        refine cb rfl (fun hc1295 => ?_) (fun hc1295 => ?_)
        ·have hr1296 := if_p hc1295 hr1283
         refine xt rfl ?_
         cases hr1296
         intro a w hS hA
         exact ⟨ad1209, cap1210, hS.selH [1, 2, 3] rfl, hA.cut ⟨rfl, rfl, rfl, rfl, rfl, rfl, rfl, rfl, rfl, rfl, rfl, rfl, tv⟩⟩
        ·have hr1297 := if_f hc1295 hr1283
         refine sk (sq (rg (m1 rfl ?_)))
         obtain ⟨hk1298, hr1299⟩ := chk_some hr1297
         refine adI rfl rfl rfl hk1298 (a1 rfl (on (sq (rg (fb 0 U115 rfl rfl rfl rfl Z52 (fb 1 U52 rfl rfl rfl rfl Z9 (ld G9 rfl rfl (((sS 0 rfl hK1291).drop 1).take 1) rfl (lnS U9 rfl rfl (fb 3 U42 rfl rfl rfl rfl Z3 (ld G3 rfl rfl (((sS 2 rfl hK6).drop 3).take 1) rfl ?_))))))))))
         obtain ⟨hk1300, hr1301⟩ := chk_some hr1299
         refine adI rfl rfl rfl hk1300 ?_
         obtain ⟨hk1302, hr1303⟩ := chk_some hr1301
         refine sbI rfl rfl rfl hk1302 (fb 3 U42 rfl rfl rfl rfl Z3 (ld G3 rfl rfl (((sS 2 rfl hK6).drop 3).take 1) rfl ?_))
         obtain ⟨hk1304, hr1305⟩ := chk_some hr1303
         refine quI rfl rfl rfl hk1304 (a1 rfl (on (sq ?_)))
         obtain ⟨hk1306, hr1307⟩ := chk_some hr1305
         obtain ⟨hk1308, hr1309⟩ := chk_some hr1307
         obtain ⟨hk1310, hr1311⟩ := chk_some hr1309
         have : 0 ≤ (s1208.2.2.1 % v_0.height) ∧ (s1208.2.2.1 % v_0.height) < v_0.height := have h := (hk1310 : 0 ≤ s1208.2.2.1 ∧ 0 < v_0.height); ⟨Int.emod_nonneg _ (by omega), Int.emod_lt_of_pos _ h.2⟩
         obtain ⟨hk1312, hr1313⟩ := chk_some hr1311
         obtain ⟨x1314, hx1315, hr1316⟩ := bd_some hr1313
         obtain ⟨p1317, rfl⟩ := hl3.adr hx1315
         obtain ⟨cs1318, hcs1319, hq1320, hr1321⟩ := hl3.at hx1315
         have hr1322 := hr1321
         obtain ⟨ad1323, cap1324, rfl, hl1325⟩ := hr1321
         have := hl1325.len
         refine drG 26 mixed (by kernel_rfl) rfl (dt rfl (m1 rfl fin1) (dt rfl (fb 0 U115 rfl rfl rfl rfl Z52 fin1) (dt rfl (fb 0 U52 rfl rfl rfl rfl Z3 fin1) (dt rfl (ld G3 rfl rfl ((sS 1 rfl hK1291).take 1) rfl fin1) (dt rfl (m1 rfl fin1) (dt rfl (m1 rfl fin1) (dt rfl (fb 2 U42 rfl rfl rfl rfl Z3 fin1) (dt rfl (ld G3 rfl rfl (((sS 3 rfl hK6).drop 2).take 1) rfl fin1) (dt rfl (quI rfl rfl rfl hk1306 fin1) (dt rfl (adI rfl rfl rfl hk1308 fin1) (dt rfl (m1 rfl fin1) ?_)))))))))))
         refine dt rfl (fb 2 U42 rfl rfl rfl rfl Z3 fin1) (dt rfl (ld G3 rfl rfl (((sS 3 rfl hK6).drop 2).take 1) rfl fin1) (dt rfl (rmI rfl rfl rfl hk1310 fin1) (dt rfl (adI rfl rfl rfl hk1312 fin1) (dt rfl (m1 rfl fin1) (dt rfl (bu (cs := [.int .i64 x1281.paragraph.anchor, .int .i64 (s763.2.1 + (s1208.2.2.1 / v_0.height)), .int .i64 ((s1208.2.2.1 % v_0.height) + 1), .int .i64 ((((x1281.paragraph.text.length : Int) + v_0.width) - 1) / v_0.width)]) T10.B81 rfl rfl rfl fin1) (dt rfl (fb 4 U42 rfl rfl rfl rfl Z40 fin1) (dt rfl (ld G40 rfl rfl ((sS 3 rfl hK6).drop 4) rfl fin1) (dt rfl (m1 rfl fin1) (dt rfl (iaP U40 Z105 rfl rfl rfl rfl (lt_of hx1315) fin1) (dt rfl (fb 0 U105 rfl rfl rfl rfl Z3 fin1) (dt rfl (ld G3 rfl rfl ((sS 4 rfl hq1320).take 1) rfl fin1) ?_)))))))))))
         refine dt rfl (m1 rfl fin1) (dt rfl (bu (cs := [.int .i64 x1281.paragraph.anchor, .int .i64 (s763.2.1 + (s1208.2.2.1 / v_0.height)), .int .i64 ((s1208.2.2.1 % v_0.height) + 1), .int .i64 ((((x1281.paragraph.text.length : Int) + v_0.width) - 1) / v_0.width), .int .i64 x1314.day, .int .i64 ((s1208.1 : Int) + 1)]) T10.B124 rfl rfl rfl fin1) ?_)
         refine DF.und (α := Option Addr × Nat) (none, 0) (fun q => .slice q.1 1 q.2) (fun (q : Option Addr × Nat) K => Sl (Flat encprinted) 6 K q.1 q.2 ([(⟨(⟨x1281.paragraph.anchor, (s763.2.1 + (s1208.2.2.1 / v_0.height)), ((s1208.2.2.1 % v_0.height) + 1), ((((x1281.paragraph.text.length : Int) + v_0.width) - 1) / v_0.width)⟩ : Place), x1314.day, ((s1208.1 : Int) + 1)⟩ : printed)] : List printed)) (fun _ _ _ h x => x.mono (Flat.mono _) h) (by kernel_rfl) rfl (fun a w K hS hA hF => TG.pa hS hA (bS (cs := [.int .i64 x1281.paragraph.anchor, .int .i64 (s763.2.1 + (s1208.2.2.1 / v_0.height)), .int .i64 ((s1208.2.2.1 % v_0.height) + 1), .int .i64 ((((x1281.paragraph.text.length : Int) + v_0.width) - 1) / v_0.width), .int .i64 x1314.day, .int .i64 ((s1208.1 : Int) + 1)]) T10.E121 rfl rfl rfl rfl fun q1326 K1327 hq1328 hK1329 => by
           have hl1330 : Sl (Flat encprinted) 6 K1327 (some q1326) 1 ([(⟨(⟨x1281.paragraph.anchor, (s763.2.1 + (s1208.2.2.1 / v_0.height)), ((s1208.2.2.1 % v_0.height) + 1), ((((x1281.paragraph.text.length : Int) + v_0.width) - 1) / v_0.width)⟩ : Place), x1314.day, ((s1208.1 : Int) + 1)⟩ : printed)] : List printed) := Sl.litR (css := [[.int .i64 x1281.paragraph.anchor, .int .i64 (s763.2.1 + (s1208.2.2.1 / v_0.height)), .int .i64 ((s1208.2.2.1 % v_0.height) + 1), .int .i64 ((((x1281.paragraph.text.length : Int) + v_0.width) - 1) / v_0.width), .int .i64 x1314.day, .int .i64 ((s1208.1 : Int) + 1)]]) (l := ([(⟨(⟨x1281.paragraph.anchor, (s763.2.1 + (s1208.2.2.1 / v_0.height)), ((s1208.2.2.1 % v_0.height) + 1), ((((x1281.paragraph.text.length : Int) + v_0.width) - 1) / v_0.width)⟩ : Place), x1314.day, ((s1208.1 : Int) + 1)⟩ : printed)] : List printed)) ⟨⟨rfl, rfl, rfl⟩, tv⟩ hq1328 hK1329 rfl
           have := hl1330.len
           exact finU (f := fun q => .slice q.1 1 q.2) (G := (fun (q : Option Addr × Nat) K => Sl (Flat encprinted) 6 K q.1 q.2 ([(⟨(⟨x1281.paragraph.anchor, (s763.2.1 + (s1208.2.2.1 / v_0.height)), ((s1208.2.2.1 % v_0.height) + 1), ((((x1281.paragraph.text.length : Int) + v_0.width) - 1) / v_0.width)⟩ : Place), x1314.day, ((s1208.1 : Int) + 1)⟩ : printed)] : List printed))) (_, _) (fun _ _ _ h x => x.mono (Flat.mono _) h) hl1330)) ?_
         rintro ⟨ad1332, cap1333⟩
         refine DF.nil fun K1334 hF => ?_
         obtain ⟨hu1331, _⟩ := hF
         have := hu1331.len
         obtain ⟨hk1335, hr1336⟩ := chk_some hr1316
         have := lenA s1208.2.2.2 ([(⟨(⟨x1281.paragraph.anchor, (s763.2.1 + (s1208.2.2.1 / v_0.height)), ((s1208.2.2.1 % v_0.height) + 1), ((((x1281.paragraph.text.length : Int) + v_0.width) - 1) / v_0.width)⟩ : Place), x1314.day, ((s1208.1 : Int) + 1)⟩ : printed)] : List printed)
         refine apS 2 (enc := encprinted) (l := s1208.2.2.2) (m := ([(⟨(⟨x1281.paragraph.anchor, (s763.2.1 + (s1208.2.2.1 / v_0.height)), ((s1208.2.2.1 % v_0.height) + 1), ((((x1281.paragraph.text.length : Int) + v_0.width) - 1) / v_0.width)⟩ : Place), x1314.day, ((s1208.1 : Int) + 1)⟩ : printed)] : List printed)) T10.E121 rfl rfl rfl rfl rfl rfl hu1331 0 rfl (fun _ => rfl) (fun _ => rfl) rfl hk1335 fun ad1337 cap1338 => (a1 rfl (on (rg (m1 rfl (m1 rfl ?_)))))
         obtain ⟨hk1339, hr1340⟩ := chk_some hr1336
         refine adI rfl rfl rfl hk1339 (a1 rfl (on ?_))
         cases hr1340
         intro a w hS hA
         exact ⟨ad1337, cap1338, hS.selH [2, 3, 4] rfl, hA.cut ⟨rfl, rfl, rfl, rfl, rfl, rfl, rfl, rfl, rfl, rfl, rfl, rfl, tv⟩⟩
       ·rintro a w ⟨ad1279, cap1280, hS, hA⟩
        refine TG.ap ?_ hS hA
        refine rg (adI rfl rfl rfl (by omega) (m1 rfl (on ?_)))
        cases hr1278
        intro a w hS hA
        exact ⟨_, hz1212, ad1279, cap1280, hS, hA.cut ⟨rfl, rfl, rfl, rfl, rfl, rfl, rfl, rfl, rfl, rfl, rfl, rfl, tv⟩⟩
      ·have hr1341 := if_n hc1217 hr1211
       refine xt rfl ?_
       cases hr1341
       obtain rfl := Fin.out hz1212
       intro a w hS hA
       exact ⟨ad1209, cap1210, hS, hA.cut ⟨rfl, rfl, rfl, rfl, rfl, rfl, rfl, tv⟩⟩
    ·rintro a w ⟨ad1206, cap1207, hS, hA⟩
     refine TG.ap ?_ hS hA
     refine rg (m1 rfl (m1 rfl (fb 2 U42 rfl rfl rfl rfl Z3 (ld G3 rfl rfl (((sS 1 rfl hK6).drop 2).take 1) rfl ?_))))
     obtain ⟨hk1342, hr1343⟩ := chk_some hr1205
     refine adI rfl rfl rfl hk1342 ?_
     obtain ⟨hk1344, hr1345⟩ := chk_some hr1343
     refine sbI rfl rfl rfl hk1344 (fb 2 U42 rfl rfl rfl rfl Z3 (ld G3 rfl rfl (((sS 1 rfl hK6).drop 2).take 1) rfl ?_))
     obtain ⟨hk1346, hr1347⟩ := chk_some hr1345
     refine quI rfl rfl rfl hk1346 ?_
     obtain ⟨hk1348, hr1349⟩ := chk_some hr1347
     refine adI rfl rfl rfl hk1348 (a1 rfl (on (rg (adI rfl rfl rfl (by omega) (m1 rfl (on ?_))))))
     cases hr1349
     intro a w hS hA
     exact ⟨_, hz767, ad1206, cap1207, hS, hA.cut ⟨rfl, rfl, rfl, rfl, rfl, rfl, tv⟩⟩
   ·have hr1350 := if_n hc772 hr766
    refine xt rfl ?_
    cases hr1350
    obtain rfl := Fin.out hz767
    intro a w hS hA
    exact ⟨ad764, cap765, hS, hA.cut ⟨rfl, tv⟩⟩
 ·rintro a w ⟨ad761, cap762, hS, hA⟩
  refine TG.ap ?_ hS hA
  refine sq (rg (m1 rfl (a1 rfl (on (rt_ ?_)))))
  cases hr760
  intro a w hS hA
  refine ret1 hA rfl rfl ?_
  exact ⟨⟨_, _, rfl, (hS.listOut 2 rfl (fun _ => rfl))⟩, hS.ext⟩

theorem w22 {M : Prop} {W : World} {H : Hp} (hH : H.le (hp W)) {cs_v_0 : List Value} (v_0 : Volume) (h_v_0 : (RVolume) H cs_v_0 v_0) {ad_errata : Option Addr} {cap_errata : Nat} {errata : List Erratum} (h_errata : Sl (Flat encErratum) 6 H ad_errata cap_errata errata) {r : List Place × Int} (hr : m22 v_0 errata = some r) : Calls Tryz.prog 22 [.agg cs_v_0.toArray, .slice ad_errata errata.length cap_errata].toArray W (RetK M H W (fun v K => ∃ (ad0 : Option Addr) (cap0 : Nat), v = .tuple [.slice ad0 r.1.length cap0, .int .i64 r.2].toArray ∧ Sl (Flat encPlace) 4 K ad0 cap0 r.1)) := by
 have hh_v_0 := h_v_0
 obtain ⟨ad1, cap2, rfl, hl3⟩ := h_v_0
 have := hl3.len
 have := h_errata.len
 unfold m22 at hr
 refine enterG (M := M) Tryz.func22 rfl Tryz.ntmps22 rfl hH ?_
 refine sq (rg (bI (cs := [.int .i64 v_0.number, .int .i64 v_0.bound, .int .i64 v_0.height, .int .i64 v_0.width, .slice ad1 v_0.parts.length cap2]) rfl rfl rfl fun q4 K5 hK6 => (a1 rfl (a1 rfl (on (sq (sq (rg (ldA G42 Z42 rfl rfl (sS 0 rfl hK6) rfl (m1 rfl ?_))))))))))
 obtain ⟨r7, hx8, hr9⟩ := bd_some hr
 refine clS C33 rfl rfl rfl rfl (fun w H hH le => w33 hH v_0 (RVolume.mono _ _ _ _ (le.at 1 rfl) hh_v_0) (h_errata.mono (Flat.mono _) (le.at 1 rfl)) hx8) (a1 rfl (on (sq (rg (m1 rfl (neI rfl rfl rfl (on ?_)))))))
 refine ci rfl (fun hc13 => ?_) (fun hc13 => ?_)
 ·have hr14 := if_p hc13 hr9
  refine sq (rg (m1 rfl (a1 rfl (a1 rfl (on (rt_ ?_))))))
  cases hr14
  intro a w hS hA
  refine ret2 hA rfl rfl rfl ?_
  exact ⟨⟨_, _, rfl, (Sl.nil _ _ _ _ _ (by decide))⟩, hS.ext⟩
 ·have hr15 := if_n hc13 hr9
  refine sk (sq (rg (a1 rfl (on (sq (sq (rg (ldA G42 Z42 rfl rfl (sS 0 rfl hK6) rfl (m1 rfl ?_)))))))))
  obtain ⟨r16, hx17, hr18⟩ := bd_some hr15
  refine clK C39 rfl rfl rfl rfl (fun w H hH le => w39 hH v_0 (RVolume.mono _ _ _ _ (le.at 1 rfl) hh_v_0) (h_errata.mono (Flat.mono _) (le.at 1 rfl)) hx17) ?_
  rintro v_ K19 ⟨ad20, cap21, rfl, hl22⟩
  have := hl22.len
  refine lnL U121 rfl rfl (m1 rfl (on (TG.nilRow 2 81 4 (TG.as 2 (z := Own.list none 0 81 4 encPlace ([] : List Place)) rfl rfl ?_))))
  obtain ⟨e89, hl90, hr91⟩ := bd_some hr18
  refine jn (fun a w => ∃ (ad92 : Option Addr) (cap93 : Nat), St M W H [K19, K5, H] [(2, Own.list ad92 cap93 81 4 encPlace e89)] w ∧ Has [] 31 a [(7, .slice ad92 e89.length cap93)]) ?_ ?_
  ·refine bk ?_
   refine lp hl90 (fun s94 a w => ∃ (ad95 : Option Addr) (cap96 : Nat), St M W H [K19, K5, H] [(2, Own.list ad95 cap96 81 4 encPlace s94.2)] w ∧ Has [] 31 a [(7, .slice ad95 s94.2.length cap96), (18, .slice ad20 r16.length cap21), (19, .int .i64 (r16.length : Int)), (20, .int .i64 (s94.1 : Int))]) ?_ ?_
   ·intro a w hS hA
    exact ⟨none, 0, hS, hA.cut ⟨rfl, rfl, rfl, rfl, tv⟩⟩
   ·rintro j s94 y99 hr97 hz98 a w ⟨ad95, cap96, hS, hA⟩
    refine TG.ap ?_ hS hA
    unfold m22_1 at hr97
    refine sq (rg (ltI rfl rfl rfl (on (sq ?_))))
    refine ci rfl (fun hc103 => ?_) (fun hc103 => ?_)
    ·have hr104 := if_p hc103 hr97
     refine sk (sq (bk (sq (rg ?_))))
     obtain ⟨x121, hx122, hr123⟩ := bd_some hr104
     obtain ⟨p124, rfl⟩ := hl22.adr hx122
     obtain ⟨cs125, hcs126, hq127, hr128⟩ := hl22.at hx122
     obtain rfl := hr128
     refine iaP U121 Z124 rfl rfl rfl rfl (lt_of hx122) (ldA G124 Z124 rfl rfl (sS 0 rfl hq127) rfl (va (cs := [.int .i64 x121.place.anchor, .int .i64 x121.place.column, .int .i64 x121.place.line, .int .i64 x121.place.lines, .int .i64 x121.day, .int .i64 x121.number]) Tryz.zeroValue124 Z124 rfl rfl rfl rfl rfl rfl rfl rfl fun q129 K130 hK131 => (on (rg (m1 rfl (fb 0 U124 rfl rfl rfl rfl Z81 (ldA G81 Z81 rfl rfl ((sS 0 rfl hK131).take 4) rfl ?_)))))))
     obtain ⟨hk132, hr133⟩ := chk_some hr123
     have := lenA s94.2 [x121.place]
     have := len1 x121.place
     refine ap1 2 encPlace (l := s94.2) x121.place T10.E74 rfl rfl rfl rfl rfl rfl rfl rfl rfl rfl rfl rfl hk132 fun ad134 cap135 u136 => (a1 rfl (on (rg (adI rfl rfl rfl (by omega) (m1 rfl (on ?_))))))
     cases hr133
     intro a w hS hA
     exact ⟨_, hz98, ad134, cap135, hS.selH [1, 2, 3] rfl, hA.cut ⟨rfl, rfl, rfl, rfl, tv⟩⟩
    ·have hr137 := if_n hc103 hr97
     refine xt rfl ?_
     cases hr137
     obtain rfl := Fin.out hz98
     intro a w hS hA
     exact ⟨ad95, cap96, hS, hA.cut ⟨rfl, tv⟩⟩
  ·rintro a w ⟨ad92, cap93, hS, hA⟩
   refine TG.ap ?_ hS hA
   refine sq (rg (m1 rfl (a1 rfl (a1 rfl (on (rt_ ?_))))))
   cases hr91
   intro a w hS hA
   refine ret2 hA rfl rfl rfl ?_
   exact ⟨⟨_, _, rfl, (hS.listOut 2 rfl (fun _ => rfl))⟩, hS.ext⟩

theorem w23F (n_ : Nat) : ∀ {M : Prop} {W : World} (n_0 : Int) {r : Bytes}, m23F n_ n_0 = some r → Calls Tryz.prog 23 [.int .i64 n_0].toArray W (RetS M W (.string (bs r))) := by
 induction n_ with
 | zero => intro M W n_0 r hr; cases hr
 | succ n_ ih_ =>
  intro M W n_0 r hr
  unfold m23F at hr
  refine enterG (M := M) Tryz.func23 rfl Tryz.ntmps23 rfl (Hp.le.refl _) ?_
  refine sq (rg (a1 rfl (on (sq (sq (rg (m1 rfl (ltI rfl rfl rfl (on ?_)))))))))
  refine ci rfl (fun hc13 => ?_) (fun hc13 => ?_)
  ·have hr14 := if_p hc13 hr
   refine sq (rg (m1 rfl ?_))
   obtain ⟨hk15, hr16⟩ := chk_some hr14
   refine rmI rfl rfl rfl hk15 (adI rfl rfl rfl (by omega) (cvI U3 U5 rfl rfl (wr_u8 (by omega)) ?_))
   obtain ⟨hk22, hr23⟩ := chk_some hr16
   refine bS (cs := [.int .u8 (48 + (n_0 % 10))]) T10.E147 rfl rfl rfl rfl fun q17 K18 hq19 hK20 => ?_
   have hl21 : Sl (Flat encC) 1 K18 (some q17) 1 ([(UInt8.ofNat (48 + (n_0 % 10)).toNat)] : List UInt8) := Sl.litR (css := [[.int .u8 (48 + (n_0 % 10))]]) (l := ([(UInt8.ofNat (48 + (n_0 % 10)).toNat)] : List UInt8)) ⟨⟨rfl, rfl, (u8e hk22)⟩, tv⟩ hq19 hK20 rfl
   have := hl21.len
   refine cvT hl21 0 rfl U147 U5 U9 rfl rfl (a1 rfl (on (rt_ ?_)))
   cases hr23
   intro a w hS hA
   refine ret1 hA rfl rfl ?_
   exact ⟨rfl, hS.ext⟩
  ·have hr24 := if_n hc13 hr
   refine sk (sq (rg (m1 rfl ?_)))
   obtain ⟨hk25, hr26⟩ := chk_some hr24
   refine quI rfl rfl rfl hk25 ?_
   obtain ⟨r27, hx28, hr29⟩ := bd_some hr26
   refine clS C23 rfl rfl rfl rfl (fun w H hH le => ih_ (n_0 / 10) hx28) (m1 rfl ?_)
   obtain ⟨hk30, hr31⟩ := chk_some hr29
   refine rmI rfl rfl rfl hk30 ?_
   obtain ⟨r32, hx33, hr34⟩ := bd_some hr31
   refine clS C23 rfl rfl rfl rfl (fun w H hH le => ih_ (n_0 % 10) hx33) ?_
   obtain ⟨hk35, hr36⟩ := chk_some hr34
   refine cat rfl rfl rfl hk35 (a1 rfl (on (rt_ ?_)))
   cases hr36
   intro a w hS hA
   refine ret1 hA rfl rfl ?_
   exact ⟨rfl, hS.ext⟩
theorem w23 {M : Prop} {W : World} (n_0 : Int) {r : Bytes} (hr : m23 n_0 = some r) : Calls Tryz.prog 23 [.int .i64 n_0].toArray W (RetS M W (.string (bs r))) := by
 obtain ⟨n_, hn⟩ := rec_some (show recO (fun n_ => m23F n_ n_0) = some r from hr)
 exact w23F n_ n_0 hn

theorem w49 {M : Prop} {W : World} {cs_p_0 : List Value} (p_0 : IPlace) (h_p_0 : (Flat encIPlace) (hp W) cs_p_0 p_0) {cs_c_1 : List Value} (c_1 : A2_Int) (h_c_1 : (Flat encA2_Int) (hp W) cs_c_1 c_1) {r : Bool} (hr : m49 p_0 c_1 = some r) : Calls Tryz.prog 49 [.agg cs_p_0.toArray, .agg cs_c_1.toArray].toArray W (RetS M W (.bool r)) := by
 obtain rfl := h_p_0
 obtain rfl := h_c_1
 unfold m49 at hr
 refine enterG (M := M) Tryz.func49 rfl Tryz.ntmps49 rfl (Hp.le.refl _) ?_
 refine sq (rg (bI (cs := [.int .i64 p_0.volume, .int .i64 p_0.from_, .int .i64 p_0.to_]) rfl rfl rfl fun q1 K2 hK3 => (bI (cs := [.int .i64 c_1.e0, .int .i64 c_1.e1]) rfl rfl rfl fun q4 K5 hK6 => (a1 rfl (on (sq ?_))))))
 obtain ⟨t13, hx14, hr15⟩ := bd_some hr
 refine jn (fun a w => St M W (hp W) [K5, K2, (hp W)] [] w ∧ Has [] 19 a [(4, .bool t13)]) ?_ ?_
 ·refine rg (fb 0 U83 rfl rfl rfl rfl Z3 (ld G3 rfl rfl ((sS 1 rfl hK3).take 1) rfl (iaA U153 Z3 rfl rfl rfl (j := 0) rfl (by decide) (ld G3 rfl rfl ((sS 0 rfl hK6).take 1) rfl (eqI rfl rfl rfl (m1 rfl ?_))))))
  by_cases hb16 : p_0.volume = c_1.e0
  ·have hr17 := if_p hb16 hx14
   refine gt hb16 rfl (iaA U153 Z3 rfl rfl rfl (j := 1) rfl (by decide) (gt hb16 rfl (ld G3 rfl rfl ((sS 0 rfl hK6).drop 1) rfl (gt hb16 rfl (fb 1 U83 rfl rfl rfl rfl Z3 (gt hb16 rfl (ld G3 rfl rfl (((sS 1 rfl hK3).drop 1).take 1) rfl (gt hb16 rfl (fb 2 U83 rfl rfl rfl rfl Z3 (gt hb16 rfl (ld G3 rfl rfl ((sS 1 rfl hK3).drop 2) rfl ?_)))))))))))
   refine gt hb16 rfl ?_
   obtain ⟨r18, hx19, hr20⟩ := bd_some hr17
   refine clS C48 rfl rfl rfl rfl (fun w H hH le => w48 c_1.e1 p_0.from_ p_0.to_ hx19) (pt hb16 rfl rfl (a1 rfl (on ?_)))
   cases hr20
   exact cu ⟨rfl, tv⟩
  ·have hr21 := if_n hb16 hx14
   refine gf hb16 rfl (gf hb16 rfl (gf hb16 rfl (gf hb16 rfl (gf hb16 rfl (gf hb16 rfl (gf hb16 rfl (pf hb16 rfl rfl (a1 rfl (on ?_)))))))))
   cases hr21
   exact cu ⟨rfl, tv⟩
 ·rintro a w ⟨hS, hA⟩
  refine TG.ap ?_ hS hA
  refine rt_ ?_
  cases hr15
  intro a w hS hA
  refine ret1 hA rfl rfl ?_
  exact ⟨rfl, hS.ext⟩

theorem w24 {M : Prop} {W : World} {H : Hp} (hH : H.le (hp W)) (hg : Gv M H) {ad_l_0 : Option Addr} {cap_l_0 : Nat} {l_0 : List Heading} (h_l_0 : Sl (RHeading) 4 H ad_l_0 cap_l_0 l_0) (volume : Int) (number : Int) {r : List Bytes × Int} (hr : m24 l_0 volume number = some r) : Calls Tryz.prog 24 [.slice ad_l_0 l_0.length cap_l_0, .int .i64 volume, .int .i64 number].toArray W (RetK M H W (fun v K => ∃ (ad0 : Option Addr) (cap0 : Nat), v = .tuple [.slice ad0 r.1.length cap0, .int .i64 r.2].toArray ∧ Sl (Flat encS) 1 K ad0 cap0 r.1)) := by
 have := h_l_0.len
 unfold m24 at hr
 refine enterG (M := M) Tryz.func24 rfl Tryz.ntmps24 rfl hH ?_
 refine sq (rg (a1 rfl (a1 rfl (on (sc (sq (sq (rg (m1 rfl ?_)))))))))
 obtain ⟨r1, hx2, hr3⟩ := bd_some hr
 refine clK C47 rfl rfl rfl rfl (fun w H hH le => w47 hH (hg.mono (le.at 0 rfl)) (h_l_0.mono (RHeading.mono) (le.at 0 rfl)) hx2) ?_
 rintro v_ K4 ⟨mp5, rfl, hm6⟩
 refine m1 rfl (ex rfl rfl rfl (ex rfl rfl rfl (a1 rfl (a1 rfl (on (sq (rg (m1 rfl (neI rfl rfl rfl (on ?_))))))))))
 refine ci rfl (fun hc10 => ?_) (fun hc10 => ?_)
 ·have hr11 := if_p hc10 hr3
  refine sq (rg (m1 rfl (a1 rfl (a1 rfl (on (rt_ ?_))))))
  cases hr11
  intro a w hS hA
  refine ret2 hA rfl rfl rfl ?_
  exact ⟨⟨_, _, rfl, (Sl.nil _ _ _ _ _ (by decide))⟩, hS.ext⟩
 ·have hr12 := if_n hc10 hr3
  refine sk (sq (sq ?_))
  obtain ⟨t22, hx23, hr24⟩ := bd_some hr12
  refine jn (fun a w => St M W H [K4, H] [] w ∧ Has [] 58 a [(0, .slice ad_l_0 l_0.length cap_l_0), (1, .int .i64 volume), (2, .int .i64 number), (6, .slice none 0 0), (30, .bool t22)]) ?_ ?_
  ·refine rg (m1 rfl ?_)
   obtain ⟨r25, hx26, hr27⟩ := bd_some hx23
   refine clS C48 rfl rfl rfl rfl (fun w H hH le => w48 volume 1 999 hx26) (nt rfl rfl (m1 rfl ?_))
   rcases Bool.eq_false_or_eq_true (r25) with hb28 | hb28
   ·have hr29 := if_p hb28 hr27
    refine gN rfl rfl (congrArg not (hb28)) (m1 rfl (gN rfl rfl (congrArg not (hb28)) ?_))
    obtain ⟨r30, hx31, hr32⟩ := bd_some hr29
    refine clS C48 rfl rfl rfl rfl (fun w H hH le => w48 number 1 9999 hx31) (gN rfl rfl (congrArg not (hb28)) (nt rfl rfl (pF rfl rfl (congrArg not (hb28)) rfl (on ?_))))
    cases hr32
    exact cu ⟨rfl, rfl, rfl, rfl, rfl, tv⟩
   ·have hr33 := if_f hb28 hr27
    refine gF rfl rfl (congrArg not (hb28)) rfl (gF rfl rfl (congrArg not (hb28)) rfl (gF rfl rfl (congrArg not (hb28)) rfl (pT rfl rfl (congrArg not (hb28)) rfl (on ?_))))
    cases hr33
    exact cu ⟨rfl, rfl, rfl, rfl, rfl, tv⟩
  ·rintro a w ⟨hS, hA⟩
   refine TG.ap ?_ hS hA
   refine cb rfl (fun hc37 => ?_) (fun hc37 => ?_)
   ·have hr38 := if_p hc37 hr24
    refine sq (rg (a1 rfl (a1 rfl (on (rt_ ?_)))))
    cases hr38
    intro a w hS hA
    refine ret2 hA rfl rfl rfl ?_
    exact ⟨⟨_, _, rfl, (Sl.nil _ _ _ _ _ (by decide))⟩, hS.ext⟩
   ·have hr39 := if_f hc37 hr24
    refine sk (sq (rg (m1 rfl (m1 rfl (buA (cs := [.int .i64 volume, .int .i64 number]) T10.B153 rfl rfl rfl (va (cs := [.int .i64 volume, .int .i64 number]) Tryz.zeroValue153 Z153 rfl rfl rfl rfl rfl rfl rfl rfl fun q40 K41 hK42 => (on (sq (lb (sq (sq ?_)))))))))))
    refine rg (m1 rfl (lnL U79 rfl rfl (m1 rfl (on (TG.nilRow 2 9 1 (TG.as 2 (z := Own.list none 0 9 1 encS ([] : List Bytes)) rfl rfl ?_))))))
    obtain ⟨e268, hl269, hr270⟩ := bd_some hr39
    refine jn (fun a w => ∃ (ad271 : Option Addr) (cap272 : Nat), St M W H [K41, K4, H] [(2, Own.list ad271 cap272 9 1 encS e268)] w ∧ Has [] 58 a [(6, .slice ad271 e268.length cap272)]) ?_ ?_
    ·refine bk ?_
     refine lp hl269 (fun s273 a w => ∃ (ad274 : Option Addr) (cap275 : Nat), St M W H [K41, K4, H] [(2, Own.list ad274 cap275 9 1 encS s273.2)] w ∧ Has [] 58 a [(6, .slice ad274 s273.2.length cap275), (10, .pointer (some q40)), (34, .slice ad_l_0 l_0.length cap_l_0), (35, .int .i64 (l_0.length : Int)), (36, .int .i64 (s273.1 : Int))]) ?_ ?_
     ·intro a w hS hA
      exact ⟨none, 0, hS, hA.cut ⟨rfl, rfl, rfl, rfl, rfl, tv⟩⟩
     ·rintro j s273 y278 hr276 hz277 a w ⟨ad274, cap275, hS, hA⟩
      refine TG.ap ?_ hS hA
      unfold m24_1 at hr276
      refine sq (rg (ltI rfl rfl rfl (on (sq ?_))))
      refine ci rfl (fun hc282 => ?_) (fun hc282 => ?_)
      ·have hr283 := if_p hc282 hr276
       refine sk (sq ?_)
       obtain ⟨t332, hx333, hr334⟩ := bd_some hr283
       refine jn (fun a w => ∃ (ad335 : Option Addr) (cap336 : Nat), St M W H [K41, K4, H] [(2, Own.list ad335 cap336 9 1 encS t332)] w ∧ Has [] 58 a [(6, .slice ad335 t332.length cap336), (10, .pointer (some q40)), (34, .slice ad_l_0 l_0.length cap_l_0), (35, .int .i64 (l_0.length : Int)), (36, .int .i64 (s273.1 : Int))]) ?_ ?_
       ·refine bk (sq (rg ?_))
        obtain ⟨x337, hx338, hr339⟩ := bd_some hx333
        obtain ⟨p340, rfl⟩ := h_l_0.adr hx338
        obtain ⟨cs341, hcs342, hq343, hr344⟩ := h_l_0.at hx338
        have hr345 := hr344
        obtain ⟨ad346, cap347, ad349, cap350, ad352, cap353, rfl, hl348, hl351, hl354⟩ := hr344
        have := hl348.len
        have := hl351.len
        have := hl354.len
        refine iaP U79 Z86 rfl rfl rfl rfl (lt_of hx338) (ldA G86 Z86 rfl rfl (sS 2 rfl hq343) rfl (va (cs := [.string (bs x337.name), .slice ad346 x337.variants.length cap347, .slice ad349 x337.also.length cap350, .slice ad352 x337.places.length cap353]) Tryz.zeroValue86 Z86 rfl rfl rfl rfl rfl rfl rfl rfl fun q355 K356 hK357 => (on (sq (rg (fb 3 U86 rfl rfl rfl rfl Z84 (ld G84 rfl rfl ((sS 0 rfl hK357).drop 3) rfl (lnL U84 rfl rfl (m1 rfl (on ?_))))))))))
        obtain ⟨e384, hl385, hr386⟩ := bd_some hr339
        refine jn (fun a w => ∃ t387, e384 = .inl t387 ∧ St M W H [K356, K41, K4, H] [(2, Own.list ad274 cap275 9 1 encS s273.2)] w ∧ Has [] 58 a [(6, .slice ad274 s273.2.length cap275), (10, .pointer (some q40)), (34, .slice (some p340) l_0.length cap_l_0), (35, .int .i64 (l_0.length : Int)), (36, .int .i64 (s273.1 : Int))]) ?_ ?_
        ·refine bk ?_
         refine lp hl385 (fun s388 a w => St M W H [K356, K41, K4, H] [(2, Own.list ad274 cap275 9 1 encS s273.2)] w ∧ Has [] 58 a [(6, .slice ad274 s273.2.length cap275), (10, .pointer (some q40)), (12, .pointer (some q355)), (34, .slice (some p340) l_0.length cap_l_0), (35, .int .i64 (l_0.length : Int)), (36, .int .i64 (s273.1 : Int)), (41, .slice ad352 x337.places.length cap353), (42, .int .i64 (x337.places.length : Int)), (43, .int .i64 (s388 : Int))]) ?_ ?_
         ·exact cu ⟨rfl, rfl, rfl, rfl, rfl, rfl, rfl, rfl, rfl, tv⟩
         ·rintro j s388 y391 hr389 hz390 a w ⟨hS, hA⟩
          refine TG.ap ?_ hS hA
          unfold m24_2 at hr389
          refine sq (rg (ltI rfl rfl rfl (on (sq ?_))))
          refine ci rfl (fun hc395 => ?_) (fun hc395 => ?_)
          ·have hr396 := if_p hc395 hr389
           refine sk (sq (bk (sq (rg ?_))))
           obtain ⟨x419, hx420, hr421⟩ := bd_some hr396
           obtain ⟨p422, rfl⟩ := hl354.adr hx420
           obtain ⟨cs423, hcs424, hq425, hr426⟩ := hl354.at hx420
           obtain rfl := hr426
           refine iaP U84 Z83 rfl rfl rfl rfl (lt_of hx420) (ldA G83 Z83 rfl rfl (sS 3 rfl hq425) rfl (va (cs := [.int .i64 x419.volume, .int .i64 x419.from_, .int .i64 x419.to_]) Tryz.zeroValue83 Z83 rfl rfl rfl rfl rfl rfl rfl rfl fun q427 K428 hK429 => (on (sq (rg (ldA G83 Z83 rfl rfl (sS 0 rfl hK429) rfl (ldA G153 Z153 rfl rfl (sS 2 rfl hK42) rfl ?_)))))))
           obtain ⟨r430, hx431, hr432⟩ := bd_some hr421
           refine clS C49 rfl rfl rfl rfl (fun w H hH le => w49 x419 rfl (⟨volume, number⟩ : A2_Int) rfl hx431) (on ?_)
           refine cb rfl (fun hc441 => ?_) (fun hc441 => ?_)
           ·have hr442 := if_p hc441 hr432
            refine sq (rg (m1 rfl (fb 0 U86 rfl rfl rfl rfl Z9 (ld G9 rfl rfl ((sS 1 rfl hK357).take 1) rfl ?_))))
            obtain ⟨hk443, hr444⟩ := chk_some hr442
            have := lenA s273.2 [x337.name]
            have := len1 x337.name
            refine ap1 2 encS (l := s273.2) x337.name T10.E77 rfl rfl rfl rfl rfl rfl rfl rfl rfl rfl rfl rfl hk443 fun ad445 cap446 u447 => (a1 rfl (on (xt rfl ?_)))
            obtain ⟨z448, hr449, rfl⟩ := mp_some hr444
            obtain rfl := Fin.out hz390
            cases hr386
            cases hr449
            intro a w hS hA
            exact ⟨ad445, cap446, hS.selH [2, 3, 4] rfl, hA.cut ⟨rfl, rfl, rfl, rfl, rfl, tv⟩⟩
           ·have hr450 := if_f hc441 hr432
            refine sk (rg (adI rfl rfl rfl (by omega) (m1 rfl (on ?_))))
            cases hr450
            intro a w hS hA
            exact ⟨_, hz390, hS.selH [1, 2, 3, 4] rfl, hA.cut ⟨rfl, rfl, rfl, rfl, rfl, rfl, rfl, rfl, rfl, tv⟩⟩
          ·have hr451 := if_n hc395 hr389
           refine xt rfl ?_
           cases hr451
           obtain rfl := Fin.out hz390
           intro a w hS hA
           exact ⟨_, rfl, hS, hA.cut ⟨rfl, rfl, rfl, rfl, rfl, tv⟩⟩
        ·rintro a w ⟨t387, rfl, hS, hA⟩
         cases hr386
         exact ⟨ad274, cap275, hS.selH [1, 2, 3] rfl, hA.cut ⟨rfl, rfl, rfl, rfl, rfl, tv⟩⟩
       ·rintro a w ⟨ad335, cap336, hS, hA⟩
        refine TG.ap ?_ hS hA
        refine rg (adI rfl rfl rfl (by omega) (m1 rfl (on ?_)))
        cases hr334
        intro a w hS hA
        exact ⟨_, hz277, ad335, cap336, hS, hA.cut ⟨rfl, rfl, rfl, rfl, rfl, tv⟩⟩
      ·have hr452 := if_n hc282 hr276
       refine xt rfl ?_
       cases hr452
       obtain rfl := Fin.out hz277
       intro a w hS hA
       exact ⟨ad274, cap275, hS, hA.cut ⟨rfl, tv⟩⟩
    ·rintro a w ⟨ad271, cap272, hS, hA⟩
     refine TG.ap ?_ hS hA
     refine sq (rg (m1 rfl (a1 rfl (a1 rfl (on (rt_ ?_))))))
     cases hr270
     intro a w hS hA
     refine ret2 hA rfl rfl rfl ?_
     exact ⟨⟨_, _, rfl, (hS.listOut 2 rfl (fun _ => rfl))⟩, hS.ext⟩

theorem w68 {M : Prop} {W : World} {H : Hp} (hH : H.le (hp W)) (hg : Gv M H) (cite : Bytes) {r : cited ⊕ Unit} (hr : m68 cite = some r) : Calls Tryz.prog 68 [.string (bs cite)].toArray W (RetT M W (fun r => .agg (enccited r).toArray) (.iface 187 (.agg [.string (bs cite)].toArray)) r) := by
 unfold m68 at hr
 refine enterG (M := M) Tryz.func68 rfl Tryz.ntmps68 rfl hH ?_
 refine sq (rg (bI (cs := [.string (bs cite)]) rfl rfl rfl fun q1 K2 hK3 => (al 1 (cs := [.int .u8 0, .int .i64 0, .int .i64 0, .int .i64 0]) Tryz.zeroValue141 rfl rfl fun b4 => (on (sq (rg (ld G9 rfl rfl (sS 0 rfl hK3) rfl (al 2 (cs := [.string (bs [])]) Tryz.zeroValue9 rfl rfl fun b5 => (sto 2 (cs := [.string (bs cite)]) Z9 rfl rfl rfl rfl rfl rfl rfl (on (sq ?_)))))))))))
 refine rg (fn rfl rfl rfl (a1 rfl (on (sq (rg (ld G9 rfl rfl (sS 0 rfl hK3) rfl ?_))))))
 obtain ⟨r6, hx7, hr8⟩ := bd_some hr
 refine clS C105 rfl rfl rfl rfl (fun w H hH le => w105 hH (hg.mono (le.at 1 rfl)) cite [118, 111, 108, 46, 32] hx7) (m1 rfl (ex rfl rfl rfl (ex rfl rfl rfl (a1 rfl (a1 rfl (on (sq (bk (sq (rg (m1 rfl ?_)))))))))))
 refine nt rfl rfl (a1 rfl (on ?_))
 obtain ⟨t506, hx507, hr508⟩ := bd_some hr8
 refine jn (fun a w => ∃ t509, t506 = .inl t509 ∧ St M W H [K2, H] [(2, cel b5 9 [.string (bs t509.2.2.2.2)]), (1, cel b4 141 [.int .u8 t509.1, .int .i64 t509.2.1, .int .i64 t509.2.2.1, .int .i64 t509.2.2.2.1])] w ∧ Has [] 58 a [(1, .pointer (some q1)), (2, .pointer (some (⟨b4, 0, none⟩)))]) ?_ ?_
 ·refine cb rfl (fun hc510 => ?_) (fun hc510 => ?_)
  ·replace hc510 := nbt hc510
   have hr511 := if_f hc510 hx507
   refine rg (m1 rfl ?_)
   obtain ⟨t540, hx541, hr542⟩ := bd_some hr511
   refine clIT C102 Tryz.func102 rfl Tryz.ntmps102 rfl rfl rfl rfl (fun v w => (∃ (t543 : Int × Bytes), t540 = (.inl t543) ∧ v = .int .i64 t543.1 ∧ St M W H [K2, H] [(2, cel b5 9 [.string (bs t543.2)]), (1, cel b4 141 [.int .u8 0, .int .i64 0, .int .i64 0, .int .i64 0])] w)) _ (fun _ _ _ hA h => ⟨hA.defers, h⟩) ?_ ?_
   ·refine sq (rg (a1 rfl (on (sq (rg (ld G9 rfl rfl (sO 2 rfl) rfl (a1 rfl (on (sq (sq (rg ?_)))))))))))
    refine m1 rfl (neS rfl rfl rfl (on (cT rfl ((by decide : decide (([64] : Bytes) ≠ []) = true)) (sq (rg (ld G9 rfl rfl (sO 2 rfl) rfl (m1 rfl ?_)))))))
    obtain ⟨r544, hx545, hr546⟩ := bd_some hx541
    refine clS C103 rfl rfl rfl rfl (fun w H hH le => w103 hH (hg.mono (le.at 1 rfl)) cite [64] hx545) (m1 rfl (ex rfl rfl rfl (ex rfl rfl rfl (ex rfl rfl rfl (a1 rfl (a1 rfl (a1 rfl (on (sq (sq (rg ?_)))))))))))
    refine m1 rfl (nt rfl rfl (on ?_))
    refine cb rfl (fun hc550 => ?_) (fun hc550 => ?_)
    ·replace hc550 := nbt hc550
     have hr551 := if_f hc550 hr546
     refine rg (ld G9 rfl rfl (sS 0 rfl hK3) rfl (bu (cs := [.string (bs cite)]) T10.B187 rfl rfl rfl (fi U187 rfl rfl rfl (pnc rfl ?_))))
     cases hr551
     cases hr542
     cases hr508
     intro a w hS hA
     exact ⟨hA.defers, rtT_pan hS.ext⟩
    ·replace hc550 := nbf hc550
     have hr552 := if_p hc550 hr546
     refine sk (rg (m1 rfl (m1 rfl (a1 rfl (sto 2 (cs := [.string (bs r544.2.1)]) Z9 rfl rfl rfl rfl rfl rfl rfl (on (sq (rg (m1 rfl ?_)))))))))
     obtain ⟨r553, hx554, hr555⟩ := bd_some hr552
     refine clK C104 rfl rfl rfl rfl (fun w H hH le => w104 hH (hg.mono (le.at 1 rfl)) r544.1 hx554) ?_
     rintro v_ K556 ⟨er557, rfl, he558⟩
     refine m1 rfl (ex rfl rfl rfl (ex rfl rfl rfl (a1 rfl (a1 rfl (on (sq (sq ?_)))))))
     obtain ⟨t571, hx572, hr573⟩ := bd_some hr555
     refine jn (fun a w => St M W H [K556, K2, H] [(2, cel b5 9 [.string (bs r544.2.1)]), (1, cel b4 141 [.int .u8 0, .int .i64 0, .int .i64 0, .int .i64 0])] w ∧ Has [] 50 a [(2, .pointer (some q1)), (9, .int .i64 r553.1), (45, .bool t571)]) ?_ ?_
     ·refine rg (m1 rfl (neE U177 rfl rfl he558 (m1 rfl ?_)))
      rcases Bool.eq_false_or_eq_true (r553.2) with hb574 | hb574
      ·have hr575 := if_p hb574 hx572
       refine gF rfl rfl (hb574) rfl (gF rfl rfl (hb574) rfl (gF rfl rfl (hb574) rfl (gF rfl rfl (hb574) rfl (pT rfl rfl (hb574) rfl (m1 rfl (gF rfl rfl rfl rfl (gF rfl rfl rfl rfl (gF rfl rfl rfl rfl (pT rfl rfl rfl rfl (on ?_))))))))))
       cases hr575
       exact cu ⟨rfl, rfl, rfl, tv⟩
      ·have hr576 := if_f hb574 hx572
       refine gN rfl rfl (hb574) (m1 rfl (gN rfl rfl (hb574) ?_))
       obtain ⟨r577, hx578, hr579⟩ := bd_some hr576
       refine clS C59 rfl rfl rfl rfl (fun w H hH le => w59 hH (hg.mono (le.at 2 rfl)) r553.1 hx578) (gN rfl rfl (hb574) (m1 rfl (gN rfl rfl (hb574) (neS rfl rfl rfl (pF rfl rfl (hb574) rfl (m1 rfl ?_))))))
       by_cases hb580 : r577 ≠ r544.1
       ·have hr581 := if_p hb580 hr579
        refine gf' hb580 rfl (gf' hb580 rfl (gf' hb580 rfl (pt hb580 rfl rfl (on ?_))))
        cases hr581
        exact cu ⟨rfl, rfl, rfl, tv⟩
       ·have hr582 := if_n hb580 hr579
        refine gt' hb580 rfl (m1 rfl (gt' hb580 rfl ?_))
        obtain ⟨r583, hx584, hr585⟩ := bd_some hr582
        refine clS C44 rfl rfl rfl rfl (fun w H hH le => w44 r553.1 0 999999 hx584) (gt' hb580 rfl (nt rfl rfl (pf hb580 rfl rfl (on ?_))))
        cases hr585
        exact cu ⟨rfl, rfl, rfl, tv⟩
     ·rintro a w ⟨hS, hA⟩
      refine TG.ap ?_ hS hA
      refine cb rfl (fun hc589 => ?_) (fun hc589 => ?_)
      ·have hr590 := if_p hc589 hr573
       refine rg (ld G9 rfl rfl (sS 1 rfl hK3) rfl (bu (cs := [.string (bs cite)]) T10.B187 rfl rfl rfl (fi U187 rfl rfl rfl (pnc rfl ?_))))
       cases hr590
       cases hr542
       cases hr508
       intro a w hS hA
       exact ⟨hA.defers, rtT_pan hS.ext⟩
      ·have hr591 := if_f hc589 hr573
       refine sk (sq (rg (m1 rfl (a1 rfl (on (rt_ ?_))))))
       cases hr591
       intro a w hS hA
       refine ret1 hA rfl rfl ?_
       exact ⟨_, rfl, ⟨_, rfl, rfl, hS.selH [1, 2] rfl⟩⟩
   ·rintro a w v hA (⟨t543, rfl, rfl, hS⟩)
    refine putK rfl hA hS (m1 rfl ?_)
    obtain ⟨t614, hx615, hr616⟩ := bd_some hr542
    refine clIT C102 Tryz.func102 rfl Tryz.ntmps102 rfl rfl rfl rfl (fun v w => (∃ (t617 : Int), t614 = (.inl t617) ∧ v = .int .i64 t617 ∧ St M W H [K2, H] [(2, cel b5 9 [.string (bs t543.2)]), (1, cel b4 141 [.int .u8 0, .int .i64 0, .int .i64 0, .int .i64 0])] w)) _ (fun _ _ _ hA h => ⟨hA.defers, h⟩) ?_ ?_
    ·refine sq (rg (a1 rfl (on (sq (rg (ld G9 rfl rfl (sO 2 rfl) rfl (a1 rfl (on (sq (sq (rg ?_)))))))))))
     refine m1 rfl (neS rfl rfl rfl (on (cF rfl ((by decide : decide (([] : Bytes) ≠ []) = false)) (sk (sq (rg (m1 rfl ?_)))))))
     obtain ⟨r618, hx619, hr620⟩ := bd_some hx615
     refine clK C104 rfl rfl rfl rfl (fun w H hH le => w104 hH (hg.mono (le.at 1 rfl)) t543.2 hx619) ?_
     rintro v_ K621 ⟨er622, rfl, he623⟩
     refine m1 rfl (ex rfl rfl rfl (ex rfl rfl rfl (a1 rfl (a1 rfl (on (sq (sq ?_)))))))
     obtain ⟨t636, hx637, hr638⟩ := bd_some hr620
     refine jn (fun a w => St M W H [K621, K2, H] [(2, cel b5 9 [.string (bs t543.2)]), (1, cel b4 141 [.int .u8 0, .int .i64 0, .int .i64 0, .int .i64 0])] w ∧ Has [] 50 a [(2, .pointer (some q1)), (9, .int .i64 r618.1), (45, .bool t636)]) ?_ ?_
     ·refine rg (m1 rfl (neE U177 rfl rfl he623 (m1 rfl ?_)))
      rcases Bool.eq_false_or_eq_true (r618.2) with hb639 | hb639
      ·have hr640 := if_p hb639 hx637
       refine gF rfl rfl (hb639) rfl (gF rfl rfl (hb639) rfl (gF rfl rfl (hb639) rfl (gF rfl rfl (hb639) rfl (pT rfl rfl (hb639) rfl (m1 rfl (gF rfl rfl rfl rfl (gF rfl rfl rfl rfl (gF rfl rfl rfl rfl (pT rfl rfl rfl rfl (on ?_))))))))))
       cases hr640
       exact cu ⟨rfl, rfl, rfl, tv⟩
      ·have hr641 := if_f hb639 hx637
       refine gN rfl rfl (hb639) (m1 rfl (gN rfl rfl (hb639) ?_))
       obtain ⟨r642, hx643, hr644⟩ := bd_some hr641
       refine clS C59 rfl rfl rfl rfl (fun w H hH le => w59 hH (hg.mono (le.at 2 rfl)) r618.1 hx643) (gN rfl rfl (hb639) (m1 rfl (gN rfl rfl (hb639) (neS rfl rfl rfl (pF rfl rfl (hb639) rfl (m1 rfl ?_))))))
       by_cases hb645 : r642 ≠ t543.2
       ·have hr646 := if_p hb645 hr644
        refine gf' hb645 rfl (gf' hb645 rfl (gf' hb645 rfl (pt hb645 rfl rfl (on ?_))))
        cases hr646
        exact cu ⟨rfl, rfl, rfl, tv⟩
       ·have hr647 := if_n hb645 hr644
        refine gt' hb645 rfl (m1 rfl (gt' hb645 rfl ?_))
        obtain ⟨r648, hx649, hr650⟩ := bd_some hr647
        refine clS C44 rfl rfl rfl rfl (fun w H hH le => w44 r618.1 0 999999 hx649) (gt' hb645 rfl (nt rfl rfl (pf hb645 rfl rfl (on ?_))))
        cases hr650
        exact cu ⟨rfl, rfl, rfl, tv⟩
     ·rintro a w ⟨hS, hA⟩
      refine TG.ap ?_ hS hA
      refine cb rfl (fun hc654 => ?_) (fun hc654 => ?_)
      ·have hr655 := if_p hc654 hr638
       refine rg (ld G9 rfl rfl (sS 1 rfl hK3) rfl (bu (cs := [.string (bs cite)]) T10.B187 rfl rfl rfl (fi U187 rfl rfl rfl (pnc rfl ?_))))
       cases hr655
       cases hr616
       cases hr508
       intro a w hS hA
       exact ⟨hA.defers, rtT_pan hS.ext⟩
      ·have hr656 := if_f hc654 hr638
       refine sk (sq (rg (m1 rfl (a1 rfl (on (rt_ ?_))))))
       cases hr656
       intro a w hS hA
       refine ret1 hA rfl rfl ?_
       exact ⟨_, rfl, ⟨_, rfl, rfl, hS.selH [1, 2] rfl⟩⟩
    ·rintro a w v hA (⟨t617, rfl, rfl, hS⟩)
     refine putK rfl hA hS (buA (cs := [.int .i64 t543.1, .int .i64 t617, .int .i64 0]) T10.B139 rfl rfl rfl (bu (cs := [.int .u8 2, .int .i64 t543.1, .int .i64 t617, .int .i64 0]) T10.B141 rfl rfl rfl (sto 1 (cs := [.int .u8 2, .int .i64 t543.1, .int .i64 t617, .int .i64 0]) Z141 rfl rfl rfl rfl rfl rfl rfl (on ?_))))
     cases hr616
     intro a w hS hA
     exact ⟨_, rfl, hS, hA.cut ⟨rfl, rfl, tv⟩⟩
  ·replace hc510 := nbf hc510
   have hr657 := if_p hc510 hx507
   refine sq (rg (ld G9 rfl rfl (sS 0 rfl hK3) rfl ?_))
   obtain ⟨r658, hx659, hr660⟩ := bd_some hr657
   refine clS C106 rfl rfl rfl rfl (fun w H hH le => w106 hH (hg.mono (le.at 1 rfl)) cite [99, 111, 108, 46, 32] hx659) (a1 rfl (on ?_))
   obtain ⟨t844, hx845, hr846⟩ := bd_some hr660
   refine jn (fun a w => ∃ t847, t844 = .inl t847 ∧ St M W H [K2, H] [(2, cel b5 9 [.string (bs t847.2.2.2.2)]), (1, cel b4 141 [.int .u8 t847.1, .int .i64 t847.2.1, .int .i64 t847.2.2.1, .int .i64 t847.2.2.2.1])] w ∧ Has [] 58 a [(1, .pointer (some q1)), (2, .pointer (some (⟨b4, 0, none⟩)))]) ?_ ?_
   ·refine cb rfl (fun hc848 => ?_) (fun hc848 => ?_)
    ·have hr849 := if_p hc848 hx845
     refine sq (rg (m1 rfl (sto 2 (cs := [.string (bs r6.1)]) Z9 rfl rfl rfl rfl rfl rfl rfl (on (rg (m1 rfl ?_))))))
     obtain ⟨t878, hx879, hr880⟩ := bd_some hr849
     refine clIT C102 Tryz.func102 rfl Tryz.ntmps102 rfl rfl rfl rfl (fun v w => (∃ (t881 : Int × Bytes), t878 = (.inl t881) ∧ v = .int .i64 t881.1 ∧ St M W H [K2, H] [(2, cel b5 9 [.string (bs t881.2)]), (1, cel b4 141 [.int .u8 0, .int .i64 0, .int .i64 0, .int .i64 0])] w)) _ (fun _ _ _ hA h => ⟨hA.defers, h⟩) ?_ ?_
     ·refine sq (rg (a1 rfl (on (sq (rg (ld G9 rfl rfl (sO 2 rfl) rfl (a1 rfl (on (sq (sq (rg ?_)))))))))))
      refine m1 rfl (neS rfl rfl rfl (on (cT rfl ((by decide : decide (([44, 32, 99, 111, 108, 46, 32] : Bytes) ≠ []) = true)) (sq (rg (ld G9 rfl rfl (sO 2 rfl) rfl (m1 rfl ?_)))))))
      obtain ⟨r882, hx883, hr884⟩ := bd_some hx879
      refine clS C103 rfl rfl rfl rfl (fun w H hH le => w103 hH (hg.mono (le.at 1 rfl)) r6.1 [44, 32, 99, 111, 108, 46, 32] hx883) (m1 rfl (ex rfl rfl rfl (ex rfl rfl rfl (ex rfl rfl rfl (a1 rfl (a1 rfl (a1 rfl (on (sq (sq (rg ?_)))))))))))
      refine m1 rfl (nt rfl rfl (on ?_))
      refine cb rfl (fun hc888 => ?_) (fun hc888 => ?_)
      ·replace hc888 := nbt hc888
       have hr889 := if_f hc888 hr884
       refine rg (ld G9 rfl rfl (sS 0 rfl hK3) rfl (bu (cs := [.string (bs cite)]) T10.B187 rfl rfl rfl (fi U187 rfl rfl rfl (pnc rfl ?_))))
       cases hr889
       cases hr880
       cases hr846
       cases hr508
       intro a w hS hA
       exact ⟨hA.defers, rtT_pan hS.ext⟩
      ·replace hc888 := nbf hc888
       have hr890 := if_p hc888 hr884
       refine sk (rg (m1 rfl (m1 rfl (a1 rfl (sto 2 (cs := [.string (bs r882.2.1)]) Z9 rfl rfl rfl rfl rfl rfl rfl (on (sq (rg (m1 rfl ?_)))))))))
       obtain ⟨r891, hx892, hr893⟩ := bd_some hr890
       refine clK C104 rfl rfl rfl rfl (fun w H hH le => w104 hH (hg.mono (le.at 1 rfl)) r882.1 hx892) ?_
       rintro v_ K894 ⟨er895, rfl, he896⟩
       refine m1 rfl (ex rfl rfl rfl (ex rfl rfl rfl (a1 rfl (a1 rfl (on (sq (sq ?_)))))))
       obtain ⟨t909, hx910, hr911⟩ := bd_some hr893
       refine jn (fun a w => St M W H [K894, K2, H] [(2, cel b5 9 [.string (bs r882.2.1)]), (1, cel b4 141 [.int .u8 0, .int .i64 0, .int .i64 0, .int .i64 0])] w ∧ Has [] 50 a [(2, .pointer (some q1)), (9, .int .i64 r891.1), (45, .bool t909)]) ?_ ?_
       ·refine rg (m1 rfl (neE U177 rfl rfl he896 (m1 rfl ?_)))
        rcases Bool.eq_false_or_eq_true (r891.2) with hb912 | hb912
        ·have hr913 := if_p hb912 hx910
         refine gF rfl rfl (hb912) rfl (gF rfl rfl (hb912) rfl (gF rfl rfl (hb912) rfl (gF rfl rfl (hb912) rfl (pT rfl rfl (hb912) rfl (m1 rfl (gF rfl rfl rfl rfl (gF rfl rfl rfl rfl (gF rfl rfl rfl rfl (pT rfl rfl rfl rfl (on ?_))))))))))
         cases hr913
         exact cu ⟨rfl, rfl, rfl, tv⟩
        ·have hr914 := if_f hb912 hx910
         refine gN rfl rfl (hb912) (m1 rfl (gN rfl rfl (hb912) ?_))
         obtain ⟨r915, hx916, hr917⟩ := bd_some hr914
         refine clS C59 rfl rfl rfl rfl (fun w H hH le => w59 hH (hg.mono (le.at 2 rfl)) r891.1 hx916) (gN rfl rfl (hb912) (m1 rfl (gN rfl rfl (hb912) (neS rfl rfl rfl (pF rfl rfl (hb912) rfl (m1 rfl ?_))))))
         by_cases hb918 : r915 ≠ r882.1
         ·have hr919 := if_p hb918 hr917
          refine gf' hb918 rfl (gf' hb918 rfl (gf' hb918 rfl (pt hb918 rfl rfl (on ?_))))
          cases hr919
          exact cu ⟨rfl, rfl, rfl, tv⟩
         ·have hr920 := if_n hb918 hr917
          refine gt' hb918 rfl (m1 rfl (gt' hb918 rfl ?_))
          obtain ⟨r921, hx922, hr923⟩ := bd_some hr920
          refine clS C44 rfl rfl rfl rfl (fun w H hH le => w44 r891.1 0 999999 hx922) (gt' hb918 rfl (nt rfl rfl (pf hb918 rfl rfl (on ?_))))
          cases hr923
          exact cu ⟨rfl, rfl, rfl, tv⟩
       ·rintro a w ⟨hS, hA⟩
        refine TG.ap ?_ hS hA
        refine cb rfl (fun hc927 => ?_) (fun hc927 => ?_)
        ·have hr928 := if_p hc927 hr911
         refine rg (ld G9 rfl rfl (sS 1 rfl hK3) rfl (bu (cs := [.string (bs cite)]) T10.B187 rfl rfl rfl (fi U187 rfl rfl rfl (pnc rfl ?_))))
         cases hr928
         cases hr880
         cases hr846
         cases hr508
         intro a w hS hA
         exact ⟨hA.defers, rtT_pan hS.ext⟩
        ·have hr929 := if_f hc927 hr911
         refine sk (sq (rg (m1 rfl (a1 rfl (on (rt_ ?_))))))
         cases hr929
         intro a w hS hA
         refine ret1 hA rfl rfl ?_
         exact ⟨_, rfl, ⟨_, rfl, rfl, hS.selH [1, 2] rfl⟩⟩
     ·rintro a w v hA (⟨t881, rfl, rfl, hS⟩)
      refine putK rfl hA hS (m1 rfl ?_)
      obtain ⟨t958, hx959, hr960⟩ := bd_some hr880
      refine clIT C102 Tryz.func102 rfl Tryz.ntmps102 rfl rfl rfl rfl (fun v w => (∃ (t961 : Int × Bytes), t958 = (.inl t961) ∧ v = .int .i64 t961.1 ∧ St M W H [K2, H] [(2, cel b5 9 [.string (bs t961.2)]), (1, cel b4 141 [.int .u8 0, .int .i64 0, .int .i64 0, .int .i64 0])] w)) _ (fun _ _ _ hA h => ⟨hA.defers, h⟩) ?_ ?_
      ·refine sq (rg (a1 rfl (on (sq (rg (ld G9 rfl rfl (sO 2 rfl) rfl (a1 rfl (on (sq (sq (rg ?_)))))))))))
       refine m1 rfl (neS rfl rfl rfl (on (cT rfl ((by decide : decide (([44, 32, 108, 46, 32] : Bytes) ≠ []) = true)) (sq (rg (ld G9 rfl rfl (sO 2 rfl) rfl (m1 rfl ?_)))))))
       obtain ⟨r962, hx963, hr964⟩ := bd_some hx959
       refine clS C103 rfl rfl rfl rfl (fun w H hH le => w103 hH (hg.mono (le.at 1 rfl)) t881.2 [44, 32, 108, 46, 32] hx963) (m1 rfl (ex rfl rfl rfl (ex rfl rfl rfl (ex rfl rfl rfl (a1 rfl (a1 rfl (a1 rfl (on (sq (sq (rg ?_)))))))))))
       refine m1 rfl (nt rfl rfl (on ?_))
       refine cb rfl (fun hc968 => ?_) (fun hc968 => ?_)
       ·replace hc968 := nbt hc968
        have hr969 := if_f hc968 hr964
        refine rg (ld G9 rfl rfl (sS 0 rfl hK3) rfl (bu (cs := [.string (bs cite)]) T10.B187 rfl rfl rfl (fi U187 rfl rfl rfl (pnc rfl ?_))))
        cases hr969
        cases hr960
        cases hr846
        cases hr508
        intro a w hS hA
        exact ⟨hA.defers, rtT_pan hS.ext⟩
       ·replace hc968 := nbf hc968
        have hr970 := if_p hc968 hr964
        refine sk (rg (m1 rfl (m1 rfl (a1 rfl (sto 2 (cs := [.string (bs r962.2.1)]) Z9 rfl rfl rfl rfl rfl rfl rfl (on (sq (rg (m1 rfl ?_)))))))))
        obtain ⟨r971, hx972, hr973⟩ := bd_some hr970
        refine clK C104 rfl rfl rfl rfl (fun w H hH le => w104 hH (hg.mono (le.at 1 rfl)) r962.1 hx972) ?_
        rintro v_ K974 ⟨er975, rfl, he976⟩
        refine m1 rfl (ex rfl rfl rfl (ex rfl rfl rfl (a1 rfl (a1 rfl (on (sq (sq ?_)))))))
        obtain ⟨t989, hx990, hr991⟩ := bd_some hr973
        refine jn (fun a w => St M W H [K974, K2, H] [(2, cel b5 9 [.string (bs r962.2.1)]), (1, cel b4 141 [.int .u8 0, .int .i64 0, .int .i64 0, .int .i64 0])] w ∧ Has [] 50 a [(2, .pointer (some q1)), (9, .int .i64 r971.1), (45, .bool t989)]) ?_ ?_
        ·refine rg (m1 rfl (neE U177 rfl rfl he976 (m1 rfl ?_)))
         rcases Bool.eq_false_or_eq_true (r971.2) with hb992 | hb992
         ·have hr993 := if_p hb992 hx990
          refine gF rfl rfl (hb992) rfl (gF rfl rfl (hb992) rfl (gF rfl rfl (hb992) rfl (gF rfl rfl (hb992) rfl (pT rfl rfl (hb992) rfl (m1 rfl (gF rfl rfl rfl rfl (gF rfl rfl rfl rfl (gF rfl rfl rfl rfl (pT rfl rfl rfl rfl (on ?_))))))))))
          cases hr993
          exact cu ⟨rfl, rfl, rfl, tv⟩
         ·have hr994 := if_f hb992 hx990
          refine gN rfl rfl (hb992) (m1 rfl (gN rfl rfl (hb992) ?_))
          obtain ⟨r995, hx996, hr997⟩ := bd_some hr994
          refine clS C59 rfl rfl rfl rfl (fun w H hH le => w59 hH (hg.mono (le.at 2 rfl)) r971.1 hx996) (gN rfl rfl (hb992) (m1 rfl (gN rfl rfl (hb992) (neS rfl rfl rfl (pF rfl rfl (hb992) rfl (m1 rfl ?_))))))
          by_cases hb998 : r995 ≠ r962.1
          ·have hr999 := if_p hb998 hr997
           refine gf' hb998 rfl (gf' hb998 rfl (gf' hb998 rfl (pt hb998 rfl rfl (on ?_))))
           cases hr999
           exact cu ⟨rfl, rfl, rfl, tv⟩
          ·have hr1000 := if_n hb998 hr997
           refine gt' hb998 rfl (m1 rfl (gt' hb998 rfl ?_))
           obtain ⟨r1001, hx1002, hr1003⟩ := bd_some hr1000
           refine clS C44 rfl rfl rfl rfl (fun w H hH le => w44 r971.1 0 999999 hx1002) (gt' hb998 rfl (nt rfl rfl (pf hb998 rfl rfl (on ?_))))
           cases hr1003
           exact cu ⟨rfl, rfl, rfl, tv⟩
        ·rintro a w ⟨hS, hA⟩
         refine TG.ap ?_ hS hA
         refine cb rfl (fun hc1007 => ?_) (fun hc1007 => ?_)
         ·have hr1008 := if_p hc1007 hr991
          refine rg (ld G9 rfl rfl (sS 1 rfl hK3) rfl (bu (cs := [.string (bs cite)]) T10.B187 rfl rfl rfl (fi U187 rfl rfl rfl (pnc rfl ?_))))
          cases hr1008
          cases hr960
          cases hr846
          cases hr508
          intro a w hS hA
          exact ⟨hA.defers, rtT_pan hS.ext⟩
         ·have hr1009 := if_f hc1007 hr991
          refine sk (sq (rg (m1 rfl (a1 rfl (on (rt_ ?_))))))
          cases hr1009
          intro a w hS hA
          refine ret1 hA rfl rfl ?_
          exact ⟨_, rfl, ⟨_, rfl, rfl, hS.selH [1, 2] rfl⟩⟩
      ·rintro a w v hA (⟨t961, rfl, rfl, hS⟩)
       refine putK rfl hA hS (m1 rfl ?_)
       obtain ⟨t1032, hx1033, hr1034⟩ := bd_some hr960
       refine clIT C102 Tryz.func102 rfl Tryz.ntmps102 rfl rfl rfl rfl (fun v w => (∃ (t1035 : Int), t1032 = (.inl t1035) ∧ v = .int .i64 t1035 ∧ St M W H [K2, H] [(2, cel b5 9 [.string (bs t961.2)]), (1, cel b4 141 [.int .u8 0, .int .i64 0, .int .i64 0, .int .i64 0])] w)) _ (fun _ _ _ hA h => ⟨hA.defers, h⟩) ?_ ?_
       ·refine sq (rg (a1 rfl (on (sq (rg (ld G9 rfl rfl (sO 2 rfl) rfl (a1 rfl (on (sq (sq (rg ?_)))))))))))
        refine m1 rfl (neS rfl rfl rfl (on (cF rfl ((by decide : decide (([] : Bytes) ≠ []) = false)) (sk (sq (rg (m1 rfl ?_)))))))
        obtain ⟨r1036, hx1037, hr1038⟩ := bd_some hx1033
        refine clK C104 rfl rfl rfl rfl (fun w H hH le => w104 hH (hg.mono (le.at 1 rfl)) t961.2 hx1037) ?_
        rintro v_ K1039 ⟨er1040, rfl, he1041⟩
        refine m1 rfl (ex rfl rfl rfl (ex rfl rfl rfl (a1 rfl (a1 rfl (on (sq (sq ?_)))))))
        obtain ⟨t1054, hx1055, hr1056⟩ := bd_some hr1038
        refine jn (fun a w => St M W H [K1039, K2, H] [(2, cel b5 9 [.string (bs t961.2)]), (1, cel b4 141 [.int .u8 0, .int .i64 0, .int .i64 0, .int .i64 0])] w ∧ Has [] 50 a [(2, .pointer (some q1)), (9, .int .i64 r1036.1), (45, .bool t1054)]) ?_ ?_
        ·refine rg (m1 rfl (neE U177 rfl rfl he1041 (m1 rfl ?_)))
         rcases Bool.eq_false_or_eq_true (r1036.2) with hb1057 | hb1057
         ·have hr1058 := if_p hb1057 hx1055
          refine gF rfl rfl (hb1057) rfl (gF rfl rfl (hb1057) rfl (gF rfl rfl (hb1057) rfl (gF rfl rfl (hb1057) rfl (pT rfl rfl (hb1057) rfl (m1 rfl (gF rfl rfl rfl rfl (gF rfl rfl rfl rfl (gF rfl rfl rfl rfl (pT rfl rfl rfl rfl (on ?_))))))))))
          cases hr1058
          exact cu ⟨rfl, rfl, rfl, tv⟩
         ·have hr1059 := if_f hb1057 hx1055
          refine gN rfl rfl (hb1057) (m1 rfl (gN rfl rfl (hb1057) ?_))
          obtain ⟨r1060, hx1061, hr1062⟩ := bd_some hr1059
          refine clS C59 rfl rfl rfl rfl (fun w H hH le => w59 hH (hg.mono (le.at 2 rfl)) r1036.1 hx1061) (gN rfl rfl (hb1057) (m1 rfl (gN rfl rfl (hb1057) (neS rfl rfl rfl (pF rfl rfl (hb1057) rfl (m1 rfl ?_))))))
          by_cases hb1063 : r1060 ≠ t961.2
          ·have hr1064 := if_p hb1063 hr1062
           refine gf' hb1063 rfl (gf' hb1063 rfl (gf' hb1063 rfl (pt hb1063 rfl rfl (on ?_))))
           cases hr1064
           exact cu ⟨rfl, rfl, rfl, tv⟩
          ·have hr1065 := if_n hb1063 hr1062
           refine gt' hb1063 rfl (m1 rfl (gt' hb1063 rfl ?_))
           obtain ⟨r1066, hx1067, hr1068⟩ := bd_some hr1065
           refine clS C44 rfl rfl rfl rfl (fun w H hH le => w44 r1036.1 0 999999 hx1067) (gt' hb1063 rfl (nt rfl rfl (pf hb1063 rfl rfl (on ?_))))
           cases hr1068
           exact cu ⟨rfl, rfl, rfl, tv⟩
        ·rintro a w ⟨hS, hA⟩
         refine TG.ap ?_ hS hA
         refine cb rfl (fun hc1072 => ?_) (fun hc1072 => ?_)
         ·have hr1073 := if_p hc1072 hr1056
          refine rg (ld G9 rfl rfl (sS 1 rfl hK3) rfl (bu (cs := [.string (bs cite)]) T10.B187 rfl rfl rfl (fi U187 rfl rfl rfl (pnc rfl ?_))))
          cases hr1073
          cases hr1034
          cases hr846
          cases hr508
          intro a w hS hA
          exact ⟨hA.defers, rtT_pan hS.ext⟩
         ·have hr1074 := if_f hc1072 hr1056
          refine sk (sq (rg (m1 rfl (a1 rfl (on (rt_ ?_))))))
          cases hr1074
          intro a w hS hA
          refine ret1 hA rfl rfl ?_
          exact ⟨_, rfl, ⟨_, rfl, rfl, hS.selH [1, 2] rfl⟩⟩
       ·rintro a w v hA (⟨t1035, rfl, rfl, hS⟩)
        refine putK rfl hA hS (buA (cs := [.int .i64 t881.1, .int .i64 t961.1, .int .i64 t1035]) T10.B139 rfl rfl rfl (bu (cs := [.int .u8 0, .int .i64 t881.1, .int .i64 t961.1, .int .i64 t1035]) T10.B141 rfl rfl rfl (sto 1 (cs := [.int .u8 0, .int .i64 t881.1, .int .i64 t961.1, .int .i64 t1035]) Z141 rfl rfl rfl rfl rfl rfl rfl (on ?_))))
        cases hr1034
        intro a w hS hA
        exact ⟨_, rfl, hS, hA.cut ⟨rfl, rfl, tv⟩⟩
    ·have hr1075 := if_f hc848 hx845
     refine sq (rg (m1 rfl (sto 2 (cs := [.string (bs r6.1)]) Z9 rfl rfl rfl rfl rfl rfl rfl (on (rg (m1 rfl ?_))))))
     obtain ⟨t1104, hx1105, hr1106⟩ := bd_some hr1075
     refine clIT C102 Tryz.func102 rfl Tryz.ntmps102 rfl rfl rfl rfl (fun v w => (∃ (t1107 : Int × Bytes), t1104 = (.inl t1107) ∧ v = .int .i64 t1107.1 ∧ St M W H [K2, H] [(2, cel b5 9 [.string (bs t1107.2)]), (1, cel b4 141 [.int .u8 0, .int .i64 0, .int .i64 0, .int .i64 0])] w)) _ (fun _ _ _ hA h => ⟨hA.defers, h⟩) ?_ ?_
     ·refine sq (rg (a1 rfl (on (sq (rg (ld G9 rfl rfl (sO 2 rfl) rfl (a1 rfl (on (sq (sq (rg ?_)))))))))))
      refine m1 rfl (neS rfl rfl rfl (on (cT rfl ((by decide : decide (([44, 32] : Bytes) ≠ []) = true)) (sq (rg (ld G9 rfl rfl (sO 2 rfl) rfl (m1 rfl ?_)))))))
      obtain ⟨r1108, hx1109, hr1110⟩ := bd_some hx1105
      refine clS C103 rfl rfl rfl rfl (fun w H hH le => w103 hH (hg.mono (le.at 1 rfl)) r6.1 [44, 32] hx1109) (m1 rfl (ex rfl rfl rfl (ex rfl rfl rfl (ex rfl rfl rfl (a1 rfl (a1 rfl (a1 rfl (on (sq (sq (rg ?_)))))))))))
      refine m1 rfl (nt rfl rfl (on ?_))
      refine cb rfl (fun hc1114 => ?_) (fun hc1114 => ?_)
      ·replace hc1114 := nbt hc1114
       have hr1115 := if_f hc1114 hr1110
       refine rg (ld G9 rfl rfl (sS 0 rfl hK3) rfl (bu (cs := [.string (bs cite)]) T10.B187 rfl rfl rfl (fi U187 rfl rfl rfl (pnc rfl ?_))))
       cases hr1115
       cases hr1106
       cases hr846
       cases hr508
       intro a w hS hA
       exact ⟨hA.defers, rtT_pan hS.ext⟩
      ·replace hc1114 := nbf hc1114
       have hr1116 := if_p hc1114 hr1110
       refine sk (rg (m1 rfl (m1 rfl (a1 rfl (sto 2 (cs := [.string (bs r1108.2.1)]) Z9 rfl rfl rfl rfl rfl rfl rfl (on (sq (rg (m1 rfl ?_)))))))))
       obtain ⟨r1117, hx1118, hr1119⟩ := bd_some hr1116
       refine clK C104 rfl rfl rfl rfl (fun w H hH le => w104 hH (hg.mono (le.at 1 rfl)) r1108.1 hx1118) ?_
       rintro v_ K1120 ⟨er1121, rfl, he1122⟩
       refine m1 rfl (ex rfl rfl rfl (ex rfl rfl rfl (a1 rfl (a1 rfl (on (sq (sq ?_)))))))
       obtain ⟨t1135, hx1136, hr1137⟩ := bd_some hr1119
       refine jn (fun a w => St M W H [K1120, K2, H] [(2, cel b5 9 [.string (bs r1108.2.1)]), (1, cel b4 141 [.int .u8 0, .int .i64 0, .int .i64 0, .int .i64 0])] w ∧ Has [] 50 a [(2, .pointer (some q1)), (9, .int .i64 r1117.1), (45, .bool t1135)]) ?_ ?_
       ·refine rg (m1 rfl (neE U177 rfl rfl he1122 (m1 rfl ?_)))
        rcases Bool.eq_false_or_eq_true (r1117.2) with hb1138 | hb1138
        ·have hr1139 := if_p hb1138 hx1136
         refine gF rfl rfl (hb1138) rfl (gF rfl rfl (hb1138) rfl (gF rfl rfl (hb1138) rfl (gF rfl rfl (hb1138) rfl (pT rfl rfl (hb1138) rfl (m1 rfl (gF rfl rfl rfl rfl (gF rfl rfl rfl rfl (gF rfl rfl rfl rfl (pT rfl rfl rfl rfl (on ?_))))))))))
         cases hr1139
         exact cu ⟨rfl, rfl, rfl, tv⟩
        ·have hr1140 := if_f hb1138 hx1136
         refine gN rfl rfl (hb1138) (m1 rfl (gN rfl rfl (hb1138) ?_))
         obtain ⟨r1141, hx1142, hr1143⟩ := bd_some hr1140
         refine clS C59 rfl rfl rfl rfl (fun w H hH le => w59 hH (hg.mono (le.at 2 rfl)) r1117.1 hx1142) (gN rfl rfl (hb1138) (m1 rfl (gN rfl rfl (hb1138) (neS rfl rfl rfl (pF rfl rfl (hb1138) rfl (m1 rfl ?_))))))
         by_cases hb1144 : r1141 ≠ r1108.1
         ·have hr1145 := if_p hb1144 hr1143
          refine gf' hb1144 rfl (gf' hb1144 rfl (gf' hb1144 rfl (pt hb1144 rfl rfl (on ?_))))
          cases hr1145
          exact cu ⟨rfl, rfl, rfl, tv⟩
         ·have hr1146 := if_n hb1144 hr1143
          refine gt' hb1144 rfl (m1 rfl (gt' hb1144 rfl ?_))
          obtain ⟨r1147, hx1148, hr1149⟩ := bd_some hr1146
          refine clS C44 rfl rfl rfl rfl (fun w H hH le => w44 r1117.1 0 999999 hx1148) (gt' hb1144 rfl (nt rfl rfl (pf hb1144 rfl rfl (on ?_))))
          cases hr1149
          exact cu ⟨rfl, rfl, rfl, tv⟩
       ·rintro a w ⟨hS, hA⟩
        refine TG.ap ?_ hS hA
        refine cb rfl (fun hc1153 => ?_) (fun hc1153 => ?_)
        ·have hr1154 := if_p hc1153 hr1137
         refine rg (ld G9 rfl rfl (sS 1 rfl hK3) rfl (bu (cs := [.string (bs cite)]) T10.B187 rfl rfl rfl (fi U187 rfl rfl rfl (pnc rfl ?_))))
         cases hr1154
         cases hr1106
         cases hr846
         cases hr508
         intro a w hS hA
         exact ⟨hA.defers, rtT_pan hS.ext⟩
        ·have hr1155 := if_f hc1153 hr1137
         refine sk (sq (rg (m1 rfl (a1 rfl (on (rt_ ?_))))))
         cases hr1155
         intro a w hS hA
         refine ret1 hA rfl rfl ?_
         exact ⟨_, rfl, ⟨_, rfl, rfl, hS.selH [1, 2] rfl⟩⟩
     ·rintro a w v hA (⟨t1107, rfl, rfl, hS⟩)
      refine putK rfl hA hS (m1 rfl ?_)
      obtain ⟨t1184, hx1185, hr1186⟩ := bd_some hr1106
      refine clIT C102 Tryz.func102 rfl Tryz.ntmps102 rfl rfl rfl rfl (fun v w => (∃ (t1187 : Int × Bytes), t1184 = (.inl t1187) ∧ v = .int .i64 t1187.1 ∧ St M W H [K2, H] [(2, cel b5 9 [.string (bs t1187.2)]), (1, cel b4 141 [.int .u8 0, .int .i64 0, .int .i64 0, .int .i64 0])] w)) _ (fun _ _ _ hA h => ⟨hA.defers, h⟩) ?_ ?_
      ·refine sq (rg (a1 rfl (on (sq (rg (ld G9 rfl rfl (sO 2 rfl) rfl (a1 rfl (on (sq (sq (rg ?_)))))))))))
       refine m1 rfl (neS rfl rfl rfl (on (cT rfl ((by decide : decide (([44, 32, 112, 97, 114, 46, 32] : Bytes) ≠ []) = true)) (sq (rg (ld G9 rfl rfl (sO 2 rfl) rfl (m1 rfl ?_)))))))
       obtain ⟨r1188, hx1189, hr1190⟩ := bd_some hx1185
       refine clS C103 rfl rfl rfl rfl (fun w H hH le => w103 hH (hg.mono (le.at 1 rfl)) t1107.2 [44, 32, 112, 97, 114, 46, 32] hx1189) (m1 rfl (ex rfl rfl rfl (ex rfl rfl rfl (ex rfl rfl rfl (a1 rfl (a1 rfl (a1 rfl (on (sq (sq (rg ?_)))))))))))
       refine m1 rfl (nt rfl rfl (on ?_))
       refine cb rfl (fun hc1194 => ?_) (fun hc1194 => ?_)
       ·replace hc1194 := nbt hc1194
        have hr1195 := if_f hc1194 hr1190
        refine rg (ld G9 rfl rfl (sS 0 rfl hK3) rfl (bu (cs := [.string (bs cite)]) T10.B187 rfl rfl rfl (fi U187 rfl rfl rfl (pnc rfl ?_))))
        cases hr1195
        cases hr1186
        cases hr846
        cases hr508
        intro a w hS hA
        exact ⟨hA.defers, rtT_pan hS.ext⟩
       ·replace hc1194 := nbf hc1194
        have hr1196 := if_p hc1194 hr1190
        refine sk (rg (m1 rfl (m1 rfl (a1 rfl (sto 2 (cs := [.string (bs r1188.2.1)]) Z9 rfl rfl rfl rfl rfl rfl rfl (on (sq (rg (m1 rfl ?_)))))))))
        obtain ⟨r1197, hx1198, hr1199⟩ := bd_some hr1196
        refine clK C104 rfl rfl rfl rfl (fun w H hH le => w104 hH (hg.mono (le.at 1 rfl)) r1188.1 hx1198) ?_
        rintro v_ K1200 ⟨er1201, rfl, he1202⟩
        refine m1 rfl (ex rfl rfl rfl (ex rfl rfl rfl (a1 rfl (a1 rfl (on (sq (sq ?_)))))))
        obtain ⟨t1215, hx1216, hr1217⟩ := bd_some hr1199
        refine jn (fun a w => St M W H [K1200, K2, H] [(2, cel b5 9 [.string (bs r1188.2.1)]), (1, cel b4 141 [.int .u8 0, .int .i64 0, .int .i64 0, .int .i64 0])] w ∧ Has [] 50 a [(2, .pointer (some q1)), (9, .int .i64 r1197.1), (45, .bool t1215)]) ?_ ?_
        ·refine rg (m1 rfl (neE U177 rfl rfl he1202 (m1 rfl ?_)))
         rcases Bool.eq_false_or_eq_true (r1197.2) with hb1218 | hb1218
         ·have hr1219 := if_p hb1218 hx1216
          refine gF rfl rfl (hb1218) rfl (gF rfl rfl (hb1218) rfl (gF rfl rfl (hb1218) rfl (gF rfl rfl (hb1218) rfl (pT rfl rfl (hb1218) rfl (m1 rfl (gF rfl rfl rfl rfl (gF rfl rfl rfl rfl (gF rfl rfl rfl rfl (pT rfl rfl rfl rfl (on ?_))))))))))
          cases hr1219
          exact cu ⟨rfl, rfl, rfl, tv⟩
         ·have hr1220 := if_f hb1218 hx1216
          refine gN rfl rfl (hb1218) (m1 rfl (gN rfl rfl (hb1218) ?_))
          obtain ⟨r1221, hx1222, hr1223⟩ := bd_some hr1220
          refine clS C59 rfl rfl rfl rfl (fun w H hH le => w59 hH (hg.mono (le.at 2 rfl)) r1197.1 hx1222) (gN rfl rfl (hb1218) (m1 rfl (gN rfl rfl (hb1218) (neS rfl rfl rfl (pF rfl rfl (hb1218) rfl (m1 rfl ?_))))))
          by_cases hb1224 : r1221 ≠ r1188.1
          ·have hr1225 := if_p hb1224 hr1223
           refine gf' hb1224 rfl (gf' hb1224 rfl (gf' hb1224 rfl (pt hb1224 rfl rfl (on ?_))))
           cases hr1225
           exact cu ⟨rfl, rfl, rfl, tv⟩
          ·have hr1226 := if_n hb1224 hr1223
           refine gt' hb1224 rfl (m1 rfl (gt' hb1224 rfl ?_))
           obtain ⟨r1227, hx1228, hr1229⟩ := bd_some hr1226
           refine clS C44 rfl rfl rfl rfl (fun w H hH le => w44 r1197.1 0 999999 hx1228) (gt' hb1224 rfl (nt rfl rfl (pf hb1224 rfl rfl (on ?_))))
           cases hr1229
           exact cu ⟨rfl, rfl, rfl, tv⟩
        ·rintro a w ⟨hS, hA⟩
         refine TG.ap ?_ hS hA
         refine cb rfl (fun hc1233 => ?_) (fun hc1233 => ?_)
         ·have hr1234 := if_p hc1233 hr1217
          refine rg (ld G9 rfl rfl (sS 1 rfl hK3) rfl (bu (cs := [.string (bs cite)]) T10.B187 rfl rfl rfl (fi U187 rfl rfl rfl (pnc rfl ?_))))
          cases hr1234
          cases hr1186
          cases hr846
          cases hr508
          intro a w hS hA
          exact ⟨hA.defers, rtT_pan hS.ext⟩
         ·have hr1235 := if_f hc1233 hr1217
          refine sk (sq (rg (m1 rfl (a1 rfl (on (rt_ ?_))))))
          cases hr1235
          intro a w hS hA
          refine ret1 hA rfl rfl ?_
          exact ⟨_, rfl, ⟨_, rfl, rfl, hS.selH [1, 2] rfl⟩⟩
      ·rintro a w v hA (⟨t1187, rfl, rfl, hS⟩)
       refine putK rfl hA hS (m1 rfl ?_)
       obtain ⟨t1258, hx1259, hr1260⟩ := bd_some hr1186
       refine clIT C102 Tryz.func102 rfl Tryz.ntmps102 rfl rfl rfl rfl (fun v w => (∃ (t1261 : Int), t1258 = (.inl t1261) ∧ v = .int .i64 t1261 ∧ St M W H [K2, H] [(2, cel b5 9 [.string (bs t1187.2)]), (1, cel b4 141 [.int .u8 0, .int .i64 0, .int .i64 0, .int .i64 0])] w)) _ (fun _ _ _ hA h => ⟨hA.defers, h⟩) ?_ ?_
       ·refine sq (rg (a1 rfl (on (sq (rg (ld G9 rfl rfl (sO 2 rfl) rfl (a1 rfl (on (sq (sq (rg ?_)))))))))))
        refine m1 rfl (neS rfl rfl rfl (on (cF rfl ((by decide : decide (([] : Bytes) ≠ []) = false)) (sk (sq (rg (m1 rfl ?_)))))))
        obtain ⟨r1262, hx1263, hr1264⟩ := bd_some hx1259
        refine clK C104 rfl rfl rfl rfl (fun w H hH le => w104 hH (hg.mono (le.at 1 rfl)) t1187.2 hx1263) ?_
        rintro v_ K1265 ⟨er1266, rfl, he1267⟩
        refine m1 rfl (ex rfl rfl rfl (ex rfl rfl rfl (a1 rfl (a1 rfl (on (sq (sq ?_)))))))
        obtain ⟨t1280, hx1281, hr1282⟩ := bd_some hr1264
        refine jn (fun a w => St M W H [K1265, K2, H] [(2, cel b5 9 [.string (bs t1187.2)]), (1, cel b4 141 [.int .u8 0, .int .i64 0, .int .i64 0, .int .i64 0])] w ∧ Has [] 50 a [(2, .pointer (some q1)), (9, .int .i64 r1262.1), (45, .bool t1280)]) ?_ ?_
        ·refine rg (m1 rfl (neE U177 rfl rfl he1267 (m1 rfl ?_)))
         rcases Bool.eq_false_or_eq_true (r1262.2) with hb1283 | hb1283
         ·have hr1284 := if_p hb1283 hx1281
          refine gF rfl rfl (hb1283) rfl (gF rfl rfl (hb1283) rfl (gF rfl rfl (hb1283) rfl (gF rfl rfl (hb1283) rfl (pT rfl rfl (hb1283) rfl (m1 rfl (gF rfl rfl rfl rfl (gF rfl rfl rfl rfl (gF rfl rfl rfl rfl (pT rfl rfl rfl rfl (on ?_))))))))))
          cases hr1284
          exact cu ⟨rfl, rfl, rfl, tv⟩
         ·have hr1285 := if_f hb1283 hx1281
          refine gN rfl rfl (hb1283) (m1 rfl (gN rfl rfl (hb1283) ?_))
          obtain ⟨r1286, hx1287, hr1288⟩ := bd_some hr1285
          refine clS C59 rfl rfl rfl rfl (fun w H hH le => w59 hH (hg.mono (le.at 2 rfl)) r1262.1 hx1287) (gN rfl rfl (hb1283) (m1 rfl (gN rfl rfl (hb1283) (neS rfl rfl rfl (pF rfl rfl (hb1283) rfl (m1 rfl ?_))))))
          by_cases hb1289 : r1286 ≠ t1187.2
          ·have hr1290 := if_p hb1289 hr1288
           refine gf' hb1289 rfl (gf' hb1289 rfl (gf' hb1289 rfl (pt hb1289 rfl rfl (on ?_))))
           cases hr1290
           exact cu ⟨rfl, rfl, rfl, tv⟩
          ·have hr1291 := if_n hb1289 hr1288
           refine gt' hb1289 rfl (m1 rfl (gt' hb1289 rfl ?_))
           obtain ⟨r1292, hx1293, hr1294⟩ := bd_some hr1291
           refine clS C44 rfl rfl rfl rfl (fun w H hH le => w44 r1262.1 0 999999 hx1293) (gt' hb1289 rfl (nt rfl rfl (pf hb1289 rfl rfl (on ?_))))
           cases hr1294
           exact cu ⟨rfl, rfl, rfl, tv⟩
        ·rintro a w ⟨hS, hA⟩
         refine TG.ap ?_ hS hA
         refine cb rfl (fun hc1298 => ?_) (fun hc1298 => ?_)
         ·have hr1299 := if_p hc1298 hr1282
          refine rg (ld G9 rfl rfl (sS 1 rfl hK3) rfl (bu (cs := [.string (bs cite)]) T10.B187 rfl rfl rfl (fi U187 rfl rfl rfl (pnc rfl ?_))))
          cases hr1299
          cases hr1260
          cases hr846
          cases hr508
          intro a w hS hA
          exact ⟨hA.defers, rtT_pan hS.ext⟩
         ·have hr1300 := if_f hc1298 hr1282
          refine sk (sq (rg (m1 rfl (a1 rfl (on (rt_ ?_))))))
          cases hr1300
          intro a w hS hA
          refine ret1 hA rfl rfl ?_
          exact ⟨_, rfl, ⟨_, rfl, rfl, hS.selH [1, 2] rfl⟩⟩
       ·rintro a w v hA (⟨t1261, rfl, rfl, hS⟩)
        refine putK rfl hA hS (buA (cs := [.int .i64 t1107.1, .int .i64 t1187.1, .int .i64 t1261]) T10.B139 rfl rfl rfl (bu (cs := [.int .u8 1, .int .i64 t1107.1, .int .i64 t1187.1, .int .i64 t1261]) T10.B141 rfl rfl rfl (sto 1 (cs := [.int .u8 1, .int .i64 t1107.1, .int .i64 t1187.1, .int .i64 t1261]) Z141 rfl rfl rfl rfl rfl rfl rfl (on ?_))))
        cases hr1260
        intro a w hS hA
        exact ⟨_, rfl, hS, hA.cut ⟨rfl, rfl, tv⟩⟩
   ·rintro a w ⟨t847, rfl, hS, hA⟩
    cases hr846
    exact ⟨_, rfl, hS, hA.cut ⟨rfl, rfl, tv⟩⟩
 ·rintro a w ⟨t509, rfl, hS, hA⟩
  refine TG.ap ?_ hS hA
  refine sq (sq ?_)
  obtain ⟨t1307, hx1308, hr1309⟩ := bd_some hr508
  refine jn (fun a w => St M W H [K2, H] [(2, cel b5 9 [.string (bs t509.2.2.2.2)]), (1, cel b4 141 [.int .u8 t509.1, .int .i64 t509.2.1, .int .i64 t509.2.2.1, .int .i64 t509.2.2.2.1])] w ∧ Has [] 58 a [(1, .pointer (some q1)), (2, .pointer (some (⟨b4, 0, none⟩))), (53, .bool t1307)]) ?_ ?_
  ·refine rg (fb 0 U141 rfl rfl rfl rfl Z5 (ld G5 rfl rfl ((sO 1 rfl).take 1) rfl (neI rfl rfl rfl (m1 rfl ?_))))
   by_cases hb1310 : t509.1 ≠ 0
   ·have hr1311 := if_p hb1310 hx1308
    refine gt hb1310 rfl (fb 1 U141 rfl rfl rfl rfl Z139 (gt hb1310 rfl (iaA U139 Z3 rfl rfl rfl (j := 1) rfl (by decide) (gt hb1310 rfl (ld G3 rfl rfl (((sO 1 rfl).drop 2).take 1) rfl (gt hb1310 rfl ?_))))))
    obtain ⟨r1312, hx1313, hr1314⟩ := bd_some hr1311
    refine clS C34 rfl rfl rfl rfl (fun w H hH le => w34 t509.2.2.1 hx1313) (gt hb1310 rfl (nt rfl rfl (pt hb1310 rfl rfl (on ?_))))
    cases hr1314
    exact cu ⟨rfl, rfl, rfl, tv⟩
   ·have hr1315 := if_n hb1310 hx1308
    refine gf hb1310 rfl (gf hb1310 rfl (gf hb1310 rfl (gf hb1310 rfl (gf hb1310 rfl (pf hb1310 rfl rfl (on ?_))))))
    cases hr1315
    exact cu ⟨rfl, rfl, rfl, tv⟩
  ·rintro a w ⟨hS, hA⟩
   refine TG.ap ?_ hS hA
   refine cb rfl (fun hc1319 => ?_) (fun hc1319 => ?_)
   ·have hr1320 := if_p hc1319 hr1309
    refine rg (ld G9 rfl rfl (sS 0 rfl hK3) rfl (bu (cs := [.string (bs cite)]) T10.B187 rfl rfl rfl (fi U187 rfl rfl rfl (pnc rfl ?_))))
    cases hr1320
    intro a w hS hA
    exact ⟨hA.defers, rtT_pan hS.ext⟩
   ·have hr1321 := if_f hc1319 hr1309
    refine sk (sq (rg (ldA G141 Z141 rfl rfl (sO 1 rfl) rfl (sto 1 (cs := [.int .u8 t509.1, .int .i64 t509.2.1, .int .i64 t509.2.2.1, .int .i64 t509.2.2.2.1]) Z141 rfl rfl rfl rfl rfl rfl rfl (on (rt_ ?_))))))
    cases hr1321
    intro a w hS hA
    refine rc1 hA rfl (ResAt.cell rfl (loadsA G141 Z141 (cell_at (hS.get (t := 1) rfl)) rfl)) ?_
    exact rtT_ret rfl hS.ext

theorem w43 {M : Prop} {W : World} {H : Hp} (hH : H.le (hp W)) (hg : Gv M H) (p0_ : Bytes) {r : cited × Bool} (hr : m43 p0_ = some r) : Calls Tryz.prog 43 [.string (bs p0_)].toArray W (RetS M W (.tuple [.agg (enccited r.1).toArray, .bool r.2].toArray)) := by
 obtain ⟨o, h1, rfl⟩ := mp_some hr
 cases o with
 | inl c =>
  refine read43 hH p0_ c fun w K h2 h3 => (w68 h2 (hg.mono h3) p0_ h1).mono fun e w' h => ?_
  obtain ⟨rfl, hE⟩ := h
  exact ⟨rfl, hE⟩
 | inr u => exact readT hH p0_ fun w K h2 h3 => w68 h2 (hg.mono h3) p0_ h1

theorem w37 {M : Prop} {W : World} {H : Hp} (hH : H.le (hp W)) {cs_v_0 : List Value} (v_0 : Volume) (h_v_0 : (RVolume) H cs_v_0 v_0) {ad_errata : Option Addr} {cap_errata : Nat} {errata : List Erratum} (h_errata : Sl (Flat encErratum) 6 H ad_errata cap_errata errata) (anchor : Int) (to_3 : Int) {r : Bytes × Bool × Int} (hr : m37 v_0 errata anchor to_3 = some r) : Calls Tryz.prog 37 [.agg cs_v_0.toArray, .slice ad_errata errata.length cap_errata, .int .i64 anchor, .int .i64 to_3].toArray W (RetS M W (.tuple [.string (bs r.1), .bool r.2.1, .int .i64 r.2.2].toArray)) := by
 have hh_v_0 := h_v_0
 obtain ⟨ad1, cap2, rfl, hl3⟩ := h_v_0
 have := hl3.len
 have := h_errata.len
 unfold m37 at hr
 refine enterG (M := M) Tryz.func37 rfl Tryz.ntmps37 rfl hH ?_
 refine sq (rg (bI (cs := [.int .i64 v_0.number, .int .i64 v_0.bound, .int .i64 v_0.height, .int .i64 v_0.width, .slice ad1 v_0.parts.length cap2]) rfl rfl rfl fun q4 K5 hK6 => (a1 rfl (a1 rfl (a1 rfl (on (sq (sq (rg (ldA G42 Z42 rfl rfl (sS 0 rfl hK6) rfl (m1 rfl ?_)))))))))))
 obtain ⟨r7, hx8, hr9⟩ := bd_some hr
 refine clS C33 rfl rfl rfl rfl (fun w H hH le => w33 hH v_0 (RVolume.mono _ _ _ _ (le.at 1 rfl) hh_v_0) (h_errata.mono (Flat.mono _) (le.at 1 rfl)) hx8) (a1 rfl (on (sq (rg (m1 rfl (neI rfl rfl rfl (on ?_)))))))
 refine ci rfl (fun hc13 => ?_) (fun hc13 => ?_)
 ·have hr14 := if_p hc13 hr9
  refine sq (rg (m1 rfl (a1 rfl (a1 rfl (a1 rfl (on (rt_ ?_)))))))
  cases hr14
  intro a w hS hA
  refine ret3 hA rfl rfl rfl rfl ?_
  exact ⟨rfl, hS.ext⟩
 ·have hr15 := if_n hc13 hr9
  refine sk (sq (sq (rg (m1 rfl ?_))))
  obtain ⟨r16, hx17, hr18⟩ := bd_some hr15
  refine clS C34 rfl rfl rfl rfl (fun w H hH le => w34 to_3 hx17) (nt rfl rfl (on ?_))
  refine cb rfl (fun hc22 => ?_) (fun hc22 => ?_)
  ·replace hc22 := nbt hc22
   have hr23 := if_f hc22 hr18
   refine sq (rg (a1 rfl (a1 rfl (a1 rfl (on (rt_ ?_))))))
   cases hr23
   intro a w hS hA
   refine ret3 hA rfl rfl rfl rfl ?_
   exact ⟨rfl, hS.ext⟩
  ·replace hc22 := nbf hc22
   have hr24 := if_p hc22 hr18
   refine sk (sq (rg (ldA G42 Z42 rfl rfl (sS 0 rfl hK6) rfl (m1 rfl (m1 rfl ?_)))))
   obtain ⟨r25, hx26, hr27⟩ := bd_some hr24
   refine clK C35 rfl rfl rfl rfl (fun w H hH le => w35 hH v_0 (RVolume.mono _ _ _ _ (le.at 1 rfl) hh_v_0) (h_errata.mono (Flat.mono _) (le.at 1 rfl)) to_3 hx26) ?_
   rintro v_ K28 ⟨q29, cs30, rfl, hc31, hr32⟩
   have hr33 := hr32
   obtain ⟨ad34, cap35, ad37, cap38, rfl, hl36, hl39⟩ := hr32
   have := hl36.len
   have := hl39.len
   refine a1 rfl (on (sq (rg (m1 rfl (m1 rfl ?_)))))
   obtain ⟨t74, hx75, hr76⟩ := bd_some hr27
   refine clI C56 Tryz.func56 rfl Tryz.ntmps56 rfl rfl rfl rfl (fun v w => (v = .tuple [.int .i64 (t74.2.1 : Int), .int .i64 (t74.1 : Int), .bool t74.2.2].toArray ∧ St M W H [K28, K5, H] [] w)) ?_ ?_
   ·refine sq (rg (a1 rfl (a1 rfl (a1 rfl (on (sc (sq (lb (sq (sq (rg ?_)))))))))))
    refine m1 rfl (nl rfl rfl (fb 5 U110 rfl rfl rfl rfl Z108 (ld G108 rfl rfl ((sS 0 rfl hc31).drop 5) rfl (lnL U108 rfl rfl (m1 rfl (on ?_))))))
    obtain ⟨e110, hl111, hr112⟩ := bd_some hx75
    refine jn (fun a w => St M W H [K28, K5, H] [] w ∧ Has [] 40 a [(4, .int .i64 (e110.1 : Int)), (5, .int .i64 (e110.2.1 : Int)), (6, .bool e110.2.2)]) ?_ ?_
    ·refine bk ?_
     refine lp hl111 (fun s113 a w => St M W H [K28, K5, H] [] w ∧ Has [] 40 a [(1, .int .i64 anchor), (4, .int .i64 (s113.1 : Int)), (5, .int .i64 (s113.2.1 : Int)), (6, .bool s113.2.2.2), (14, .slice ad37 r25.parts.length cap38), (15, .int .i64 (r25.parts.length : Int)), (16, .int .i64 (s113.2.2.1 : Int))]) ?_ ?_
     ·exact cu ⟨rfl, rfl, rfl, rfl, rfl, rfl, rfl, tv⟩
     ·rintro j s113 y116 hr114 hz115 a w ⟨hS, hA⟩
      refine TG.ap ?_ hS hA
      unfold m37_1 at hr114
      refine sq (rg (ltI rfl rfl rfl (on (sq ?_))))
      refine ci rfl (fun hc120 => ?_) (fun hc120 => ?_)
      ·have hr121 := if_p hc120 hr114
       refine sk (sq (bk (sq (rg (m1 rfl ?_)))))
       obtain ⟨x151, hx152, hr153⟩ := bd_some hr121
       obtain ⟨p154, rfl⟩ := hl39.adr hx152
       obtain ⟨cs155, hcs156, hq157, hr158⟩ := hl39.at hx152
       have hr159 := hr158
       obtain ⟨ad160, cap161, rfl, hl162⟩ := hr158
       have := hl162.len
       refine iaP U108 Z113 rfl rfl rfl rfl (lt_of hx152) (ld G113 rfl rfl (sS 0 rfl hq157) rfl (a1 rfl (a1 rfl (on (sq (rg (m1 rfl (lnL U113 rfl rfl (m1 rfl (on ?_))))))))))
       obtain ⟨e179, hl180, hr181⟩ := bd_some hr153
       refine jn (fun a w => ∃ t182, e179 = .inl t182 ∧ St M W H [K28, K5, H] [] w ∧ Has [] 40 a [(1, .int .i64 anchor), (4, .int .i64 (t182.1 : Int)), (5, .int .i64 (t182.2.1 : Int)), (6, .bool t182.2.2), (14, .slice (some p154) r25.parts.length cap38), (15, .int .i64 (r25.parts.length : Int)), (16, .int .i64 (s113.2.2.1 : Int))]) ?_ ?_
       ·refine bk ?_
        refine lp hl180 (fun s183 a w => St M W H [K28, K5, H] [] w ∧ Has [] 40 a [(1, .int .i64 anchor), (4, .int .i64 (s183.1 : Int)), (5, .int .i64 (s183.2.1 : Int)), (6, .bool s183.2.2.2), (7, .int .i64 (s113.2.2.1 : Int)), (14, .slice (some p154) r25.parts.length cap38), (15, .int .i64 (r25.parts.length : Int)), (16, .int .i64 (s113.2.2.1 : Int)), (21, .slice ad160 x151.length cap161), (22, .int .i64 (x151.length : Int)), (23, .int .i64 (s183.2.2.1 : Int))]) ?_ ?_
        ·exact cu ⟨rfl, rfl, rfl, rfl, rfl, rfl, rfl, rfl, rfl, rfl, rfl, tv⟩
        ·rintro j s183 y186 hr184 hz185 a w ⟨hS, hA⟩
         refine TG.ap ?_ hS hA
         unfold m37_2 at hr184
         refine sq (rg (ltI rfl rfl rfl (on (sq ?_))))
         refine ci rfl (fun hc190 => ?_) (fun hc190 => ?_)
         ·have hr191 := if_p hc190 hr184
          refine sk (sq (bk (sq (rg (m1 rfl ?_)))))
          obtain ⟨x204, hx205, hr206⟩ := bd_some hr191
          obtain ⟨p207, rfl⟩ := hl162.adr hx205
          obtain ⟨cs208, hcs209, hq210, hr211⟩ := hl162.at hx205
          obtain rfl := hr211
          refine iaP U113 Z115 rfl rfl rfl rfl (lt_of hx205) (ldA G115 Z115 rfl rfl (sS 0 rfl hq210) rfl (al 1 (cs := [.int .i64 0, .string (bs []), .bool false]) Tryz.zeroValue115 rfl rfl fun b212 => (a1 rfl (sto 1 (cs := [.int .i64 x204.paragraph.anchor, .string (bs x204.paragraph.text), .bool x204.removed]) Z115 rfl rfl rfl rfl rfl rfl rfl (on (sq (rg (fb 0 U115 rfl rfl rfl rfl Z52 (fb 0 U52 rfl rfl rfl rfl Z3 (ld G3 rfl rfl ((sO 1 rfl).take 1) rfl (m1 rfl ?_)))))))))))
          refine eqI rfl rfl rfl (on ?_)
          refine ci rfl (fun hc216 => ?_) (fun hc216 => ?_)
          ·have hr217 := if_p hc216 hr206
           refine sq (rg (m1 rfl (m1 rfl (a1 rfl (a1 rfl (a1 rfl (on (xt rfl ?_))))))))
           obtain ⟨z218, hr219, rfl⟩ := mp_some hr217
           obtain rfl := Fin.out hz185
           cases hr181
           refine TG.del 1 ?_
           cases hr219
           obtain rfl := Fin.out hz115
           exact cu ⟨rfl, rfl, rfl, tv⟩
          ·have hr220 := if_n hc216 hr206
           refine sk (rg (adI rfl rfl rfl (by omega) (m1 rfl (on (TG.del 1 ?_)))))
           cases hr220
           intro a w hS hA
           exact ⟨_, hz185, hS, hA.cut ⟨rfl, rfl, rfl, rfl, rfl, rfl, rfl, rfl, rfl, rfl, rfl, tv⟩⟩
         ·have hr221 := if_n hc190 hr184
          refine xt rfl ?_
          cases hr221
          obtain rfl := Fin.out hz185
          intro a w hS hA
          exact ⟨_, rfl, hS, hA.cut ⟨rfl, rfl, rfl, rfl, rfl, rfl, rfl, tv⟩⟩
       ·rintro a w ⟨t182, rfl, hS, hA⟩
        refine TG.ap ?_ hS hA
        refine rg (adI rfl rfl rfl (by omega) (m1 rfl (on ?_)))
        cases hr181
        intro a w hS hA
        exact ⟨_, hz115, hS, hA.cut ⟨rfl, rfl, rfl, rfl, rfl, rfl, rfl, tv⟩⟩
      ·have hr222 := if_n hc120 hr114
       refine xt rfl ?_
       cases hr222
       obtain rfl := Fin.out hz115
       exact cu ⟨rfl, rfl, rfl, tv⟩
    ·rintro a w ⟨hS, hA⟩
     refine TG.ap ?_ hS hA
     refine sq (rg (m1 rfl (m1 rfl (m1 rfl (a1 rfl (a1 rfl (a1 rfl (on (rt_ ?_)))))))))
     cases hr112
     intro a w hS hA
     refine ret3 hA rfl rfl rfl rfl ?_
     exact ⟨_, rfl, ⟨rfl, hS⟩⟩
   ·rintro a w v hA (⟨rfl, hS⟩)
    refine putK rfl hA hS (m1 rfl (ex rfl rfl rfl (ex rfl rfl rfl (ex rfl rfl rfl (a1 rfl (a1 rfl (a1 rfl (on (sq (sq (rg ?_)))))))))))
    refine m1 rfl (nt rfl rfl (on ?_))
    refine cb rfl (fun hc226 => ?_) (fun hc226 => ?_)
    ·replace hc226 := nbt hc226
     have hr227 := if_f hc226 hr76
     refine sq (rg (a1 rfl (a1 rfl (a1 rfl (on (rt_ ?_))))))
     cases hr227
     intro a w hS hA
     refine ret3 hA rfl rfl rfl rfl ?_
     exact ⟨rfl, hS.ext⟩
    ·replace hc226 := nbf hc226
     have hr228 := if_p hc226 hr76
     refine sk (sq (rg (m1 rfl (nl rfl rfl (fb 5 U110 rfl rfl rfl rfl Z108 (ld G108 rfl rfl ((sS 0 rfl hc31).drop 5) rfl (m1 rfl ?_)))))))
     obtain ⟨x229, hx230, hr231⟩ := bd_some hr228
     obtain ⟨p232, rfl⟩ := hl39.adr hx230
     obtain ⟨cs233, hcs234, hq235, hr236⟩ := hl39.at hx230
     have hr237 := hr236
     obtain ⟨ad238, cap239, rfl, hl240⟩ := hr236
     have := hl240.len
     refine iaP U108 Z113 rfl rfl rfl rfl (lt_of hx230) (ld G113 rfl rfl (sS 0 rfl hq235) rfl (m1 rfl ?_))
     obtain ⟨x241, hx242, hr243⟩ := bd_some hr231
     obtain ⟨p244, rfl⟩ := hl240.adr hx242
     obtain ⟨cs245, hcs246, hq247, hr248⟩ := hl240.at hx242
     obtain rfl := hr248
     refine iaP U113 Z115 rfl rfl rfl rfl (lt_of hx242) (ldA G115 Z115 rfl rfl (sS 0 rfl hq247) rfl (va (cs := [.int .i64 x241.paragraph.anchor, .string (bs x241.paragraph.text), .bool x241.removed]) Tryz.zeroValue115 Z115 rfl rfl rfl rfl rfl rfl rfl rfl fun q249 K250 hK251 => (on (sq ?_))))
     refine TG.cut (L' := [(0, .agg [.int .i64 v_0.number, .int .i64 v_0.bound, .int .i64 v_0.height, .int .i64 v_0.width, .slice ad1 v_0.parts.length cap2].toArray), (1, .slice ad_errata errata.length cap_errata), (2, .int .i64 anchor), (3, .int .i64 to_3), (4, .pointer (some q4)), (9, .bool false), (10, .int .i64 0), (11, .int .i64 r7), (12, .pointer (some q29)), (13, .int .i64 (t74.2.1 : Int)), (14, .int .i64 (t74.1 : Int)), (15, .bool t74.2.2), (16, .pointer (some q249)), (17, .agg [.int .i64 v_0.number, .int .i64 v_0.bound, .int .i64 v_0.height, .int .i64 v_0.width, .slice ad1 v_0.parts.length cap2].toArray), (18, .slice ad_errata errata.length cap_errata), (19, .int .i64 r7), (20, .int .i64 r7), (21, .bool (decide (r7 ≠ 0))), (23, .int .i64 to_3), (24, .bool r16), (25, .bool (!r16)), (26, .agg [.int .i64 v_0.number, .int .i64 v_0.bound, .int .i64 v_0.height, .int .i64 v_0.width, .slice ad1 v_0.parts.length cap2].toArray), (27, .slice ad_errata errata.length cap_errata), (28, .int .i64 to_3), (29, .pointer (some q29)), (30, .tuple [.int .i64 (t74.2.1 : Int), .int .i64 (t74.1 : Int), .bool t74.2.2].toArray), (31, .pointer (some q29)), (32, .int .i64 anchor), (33, .tuple [.int .i64 (t74.2.1 : Int), .int .i64 (t74.1 : Int), .bool t74.2.2].toArray), (34, .int .i64 (t74.2.1 : Int)), (35, .int .i64 (t74.1 : Int)), (36, .bool t74.2.2), (37, .bool t74.2.2), (38, .bool (!t74.2.2)), (39, .pointer (some q29)), (40, .pointer (some q29)), (41, .pointer (some (q29.add 5))), (42, .slice (some p232) r25.parts.length cap38), (43, .int .i64 (t74.2.1 : Int)), (44, .pointer (some (p232.add (t74.2.1 * 1)))), (45, .slice (some p244) x229.length cap239), (46, .int .i64 (t74.1 : Int)), (47, .pointer (some (p244.add (t74.1 * 3)))), (48, .agg [.int .i64 x241.paragraph.anchor, .string (bs x241.paragraph.text), .bool x241.removed].toArray)]) ⟨rfl, rfl, rfl, rfl, rfl, rfl, rfl, rfl, rfl, rfl, rfl, rfl, rfl, rfl, rfl, rfl, rfl, rfl, rfl, rfl, rfl, rfl, rfl, rfl, rfl, rfl, rfl, rfl, rfl, rfl, rfl, rfl, rfl, rfl, rfl, rfl, rfl, rfl, rfl, rfl, rfl, rfl, rfl, rfl, tv⟩ ?_
     refine drG 6 mixed (by kernel_rfl) rfl (dt rfl (fb 0 U115 rfl rfl rfl rfl Z52 fin1) (dt rfl (fb 1 U52 rfl rfl rfl rfl Z9 fin1) (dt rfl (ld G9 rfl rfl (((sS 1 rfl hK251).drop 1).take 1) rfl fin1) (dt rfl (fb 2 U115 rfl rfl rfl rfl Z4 fin1) (dt rfl (ld G4 rfl rfl ((sS 1 rfl hK251).drop 2) rfl fin1) (dt rfl (a1 rfl fin1) (DF.nil fun K252 hF => (a1 rfl (a1 rfl (on (rt_ ?_)))))))))))
     cases hr243
     intro a w hS hA
     refine ret3 hA rfl rfl rfl rfl ?_
     exact ⟨rfl, hS.ext⟩

theorem w19 {M : Prop} {W : World} {H : Hp} (hH : H.le (hp W)) (hg : Gv M H) {cs_v_0 : List Value} (v_0 : Volume) (h_v_0 : (RVolume) H cs_v_0 v_0) {ad_errata : Option Addr} {cap_errata : Nat} {errata : List Erratum} (h_errata : Sl (Flat encErratum) 6 H ad_errata cap_errata errata) (cite : Bytes) {r : Int × Int × Int} (hr : m19 v_0 errata cite = some r) : Calls Tryz.prog 19 [.agg cs_v_0.toArray, .slice ad_errata errata.length cap_errata, .string (bs cite)].toArray W (RetS M W (.tuple [.int .i64 r.1, .int .i64 r.2.1, .int .i64 r.2.2].toArray)) := by
 have hh_v_0 := h_v_0
 obtain ⟨ad1, cap2, rfl, hl3⟩ := h_v_0
 have := hl3.len
 have := h_errata.len
 unfold m19 at hr
 refine enterG (M := M) Tryz.func19 rfl Tryz.ntmps19 rfl hH ?_
 refine sq (rg (bI (cs := [.int .i64 v_0.number, .int .i64 v_0.bound, .int .i64 v_0.height, .int .i64 v_0.width, .slice ad1 v_0.parts.length cap2]) rfl rfl rfl fun q4 K5 hK6 => (a1 rfl (a1 rfl (a1 rfl (on (sq (sq (rg (ldA G42 Z42 rfl rfl (sS 0 rfl hK6) rfl (m1 rfl ?_)))))))))))
 obtain ⟨r7, hx8, hr9⟩ := bd_some hr
 refine clS C33 rfl rfl rfl rfl (fun w H hH le => w33 hH v_0 (RVolume.mono _ _ _ _ (le.at 1 rfl) hh_v_0) (h_errata.mono (Flat.mono _) (le.at 1 rfl)) hx8) (a1 rfl (on (sq (rg (m1 rfl (neI rfl rfl rfl (on ?_)))))))
 refine ci rfl (fun hc13 => ?_) (fun hc13 => ?_)
 ·have hr14 := if_p hc13 hr9
  refine sq (rg (m1 rfl (a1 rfl (a1 rfl (a1 rfl (on (rt_ ?_)))))))
  cases hr14
  intro a w hS hA
  refine ret3 hA rfl rfl rfl rfl ?_
  exact ⟨rfl, hS.ext⟩
 ·have hr15 := if_n hc13 hr9
  refine sk (sq (rg (m1 rfl ?_)))
  obtain ⟨r16, hx17, hr18⟩ := bd_some hr15
  refine clS C43 rfl rfl rfl rfl (fun w H hH le => w43 hH (hg.mono (le.at 1 rfl)) cite hx17) (m1 rfl (ex rfl rfl rfl (ex rfl rfl rfl (va (cs := [.int .u8 r16.1.style, .int .i64 r16.1.numbers.e0, .int .i64 r16.1.numbers.e1, .int .i64 r16.1.numbers.e2]) Tryz.zeroValue141 Z141 rfl rfl rfl rfl rfl rfl rfl rfl fun q19 K20 hK21 => (a1 rfl (on (sq (sq (rg (m1 rfl (nt rfl rfl ?_)))))))))))
  refine on ?_
  refine cb rfl (fun hc25 => ?_) (fun hc25 => ?_)
  ·replace hc25 := nbt hc25
   have hr26 := if_f hc25 hr18
   refine sq (rg (a1 rfl (a1 rfl (a1 rfl (on (rt_ ?_))))))
   cases hr26
   intro a w hS hA
   refine ret3 hA rfl rfl rfl rfl ?_
   exact ⟨rfl, hS.ext⟩
  ·replace hc25 := nbf hc25
   have hr27 := if_p hc25 hr18
   refine sk (sq (rg (fb 1 U141 rfl rfl rfl rfl Z139 (ldA G139 Z139 rfl rfl ((sS 0 rfl hK21).drop 1) rfl (va (cs := [.int .i64 r16.1.numbers.e0, .int .i64 r16.1.numbers.e1, .int .i64 r16.1.numbers.e2]) Tryz.zeroValue139 Z139 rfl rfl rfl rfl rfl rfl rfl rfl fun q28 K29 hK30 => (on (sq (sq (rg (fb 0 U141 rfl rfl rfl rfl Z5 (ld G5 rfl rfl ((sS 1 rfl hK21).take 1) rfl ?_)))))))))))
   refine eqI rfl rfl rfl (on ?_)
   refine ci rfl (fun hc41 => ?_) (fun hc41 => ?_)
   ·have hr42 := if_p hc41 hr27
    refine sq (sq (rg (ldA G42 Z42 rfl rfl (sS 2 rfl hK6) rfl (m1 rfl (iaA U139 Z3 rfl rfl rfl (j := 0) rfl (by decide) (ld G3 rfl rfl ((sS 0 rfl hK30).take 1) rfl (iaA U139 Z3 rfl rfl rfl (j := 1) rfl (by decide) (ld G3 rfl rfl (((sS 0 rfl hK30).drop 1).take 1) rfl ?_))))))))
    obtain ⟨r43, hx44, hr45⟩ := bd_some hr42
    refine clS C37 rfl rfl rfl rfl (fun w H hH le => w37 hH v_0 (RVolume.mono _ _ _ _ (le.at 3 rfl) hh_v_0) (h_errata.mono (Flat.mono _) (le.at 3 rfl)) r16.1.numbers.e0 r16.1.numbers.e1 hx44) (m1 rfl (ex rfl rfl rfl (ex rfl rfl rfl (ex rfl rfl rfl (a1 rfl (a1 rfl (a1 rfl (on (sq (rg (m1 rfl ?_)))))))))))
    refine neI rfl rfl rfl (on ?_)
    refine ci rfl (fun hc49 => ?_) (fun hc49 => ?_)
    ·have hr50 := if_p hc49 hr45
     refine sq (rg (m1 rfl (a1 rfl (a1 rfl (a1 rfl (on (rt_ ?_)))))))
     cases hr50
     intro a w hS hA
     refine ret3 hA rfl rfl rfl rfl ?_
     exact ⟨rfl, hS.ext⟩
    ·have hr51 := if_n hc49 hr45
     refine sk (sq ?_)
     refine TG.cut (L' := [(0, .agg [.int .i64 v_0.number, .int .i64 v_0.bound, .int .i64 v_0.height, .int .i64 v_0.width, .slice ad1 v_0.parts.length cap2].toArray), (1, .slice ad_errata errata.length cap_errata), (2, .string (bs cite)), (3, .pointer (some q4)), (7, .int .i64 0), (8, .int .i64 0), (9, .int .i64 r7), (10, .pointer (some q19)), (11, .bool r16.2), (12, .pointer (some q28)), (13, .string (bs r43.1)), (14, .bool r43.2.1), (15, .int .i64 r43.2.2), (20, .agg [.int .i64 v_0.number, .int .i64 v_0.bound, .int .i64 v_0.height, .int .i64 v_0.width, .slice ad1 v_0.parts.length cap2].toArray), (21, .slice ad_errata errata.length cap_errata), (22, .int .i64 r7), (23, .int .i64 r7), (24, .bool (decide (r7 ≠ 0))), (26, .tuple [.agg (enccited r16.1).toArray, .bool r16.2].toArray), (27, .string (bs cite)), (28, .tuple [.agg (enccited r16.1).toArray, .bool r16.2].toArray), (29, .agg (enccited r16.1).toArray), (30, .bool r16.2), (31, .bool r16.2), (32, .bool (!r16.2)), (33, .pointer (some (q19.add 1))), (34, .agg [.int .i64 r16.1.numbers.e0, .int .i64 r16.1.numbers.e1, .int .i64 r16.1.numbers.e2].toArray), (35, .pointer (some q19)), (36, .int .u8 r16.1.style), (37, .bool (decide (r16.1.style = 2))), (38, .tuple [.string (bs r43.1), .bool r43.2.1, .int .i64 r43.2.2].toArray), (39, .agg [.int .i64 v_0.number, .int .i64 v_0.bound, .int .i64 v_0.height, .int .i64 v_0.width, .slice ad1 v_0.parts.length cap2].toArray), (40, .slice ad_errata errata.length cap_errata), (41, .pointer (some q28)), (42, .int .i64 r16.1.numbers.e0), (43, .pointer (some (q28.add 1))), (44, .int .i64 r16.1.numbers.e1), (45, .tuple [.string (bs r43.1), .bool r43.2.1, .int .i64 r43.2.2].toArray), (46, .string (bs r43.1)), (47, .bool r43.2.1), (48, .int .i64 r43.2.2), (49, .int .i64 r43.2.2), (50, .bool (decide (r43.2.2 ≠ 0)))]) ⟨rfl, rfl, rfl, rfl, rfl, rfl, rfl, rfl, rfl, rfl, rfl, rfl, rfl, rfl, rfl, rfl, rfl, rfl, rfl, rfl, rfl, rfl, rfl, rfl, rfl, rfl, rfl, rfl, rfl, rfl, rfl, rfl, rfl, rfl, rfl, rfl, rfl, rfl, rfl, rfl, rfl, rfl, rfl, tv⟩ ?_
     refine drG 5 mixed (by kernel_rfl) rfl (dt rfl (iaA U139 Z3 rfl rfl rfl (j := 0) rfl (by decide) fin1) (dt rfl (ld G3 rfl rfl ((sS 1 rfl hK30).take 1) rfl fin1) (dt rfl (iaA U139 Z3 rfl rfl rfl (j := 1) rfl (by decide) fin1) (dt rfl (ld G3 rfl rfl (((sS 1 rfl hK30).drop 1).take 1) rfl fin1) (dt rfl (a1 rfl fin1) (DF.nil fun K52 hF => (a1 rfl (a1 rfl (on (rt_ ?_))))))))))
     cases hr51
     intro a w hS hA
     refine ret3 hA rfl rfl rfl rfl ?_
     exact ⟨rfl, hS.ext⟩
   ·have hr53 := if_n hc41 hr27
    refine sk (sq (sq (rg (ldA G42 Z42 rfl rfl (sS 2 rfl hK6) rfl (m1 rfl ?_)))))
    obtain ⟨r54, hx55, hr56⟩ := bd_some hr53
    refine clK C39 rfl rfl rfl rfl (fun w H hH le => w39 hH v_0 (RVolume.mono _ _ _ _ (le.at 3 rfl) hh_v_0) (h_errata.mono (Flat.mono _) (le.at 3 rfl)) hx55) ?_
    rintro v_ K57 ⟨ad58, cap59, rfl, hl60⟩
    have := hl60.len
    refine lnL U121 rfl rfl (m1 rfl (on ?_))
    obtain ⟨e112, hl113, hr114⟩ := bd_some hr56
    refine jn (fun a w => ∃ t115, e112 = .inl t115 ∧ St M W H [K57, K29, K20, K5, H] [] w ∧ Has [] 122 a []) ?_ ?_
    ·refine bk ?_
     refine lp hl113 (fun s116 a w => St M W H [K57, K29, K20, K5, H] [] w ∧ Has [] 122 a [(3, .pointer (some q4)), (10, .pointer (some q19)), (12, .pointer (some q28)), (58, .slice ad58 r54.length cap59), (59, .int .i64 (r54.length : Int)), (60, .int .i64 (s116 : Int))]) ?_ ?_
     ·exact cu ⟨rfl, rfl, rfl, rfl, rfl, rfl, tv⟩
     ·rintro j s116 y119 hr117 hz118 a w ⟨hS, hA⟩
      refine TG.ap ?_ hS hA
      unfold m19_1 at hr117
      refine sq (rg (ltI rfl rfl rfl (on (sq ?_))))
      refine ci rfl (fun hc123 => ?_) (fun hc123 => ?_)
      ·have hr124 := if_p hc123 hr117
       refine sk (sq (bk (sq (rg ?_))))
       obtain ⟨x172, hx173, hr174⟩ := bd_some hr124
       obtain ⟨p175, rfl⟩ := hl60.adr hx173
       obtain ⟨cs176, hcs177, hq178, hr179⟩ := hl60.at hx173
       obtain rfl := hr179
       refine iaP U121 Z124 rfl rfl rfl rfl (lt_of hx173) (ldA G124 Z124 rfl rfl (sS 0 rfl hq178) rfl (va (cs := [.int .i64 x172.place.anchor, .int .i64 x172.place.column, .int .i64 x172.place.line, .int .i64 x172.place.lines, .int .i64 x172.day, .int .i64 x172.number]) Tryz.zeroValue124 Z124 rfl rfl rfl rfl rfl rfl rfl rfl fun q180 K181 hK182 => (on (sq (rg (iaA U139 Z3 rfl rfl rfl (j := 1) rfl (by decide) (ld G3 rfl rfl (((sS 2 rfl hK30).drop 1).take 1) rfl (fb 0 U124 rfl rfl rfl rfl Z81 (fb 1 U81 rfl rfl rfl rfl Z3 (ld G3 rfl rfl (((sS 0 rfl hK182).drop 1).take 1) rfl ?_))))))))))
       obtain ⟨hk183, hr184⟩ := chk_some hr174
       refine sbI rfl rfl rfl hk183 (fb 2 U42 rfl rfl rfl rfl Z3 (ld G3 rfl rfl (((sS 4 rfl hK6).drop 2).take 1) rfl ?_))
       obtain ⟨hk185, hr186⟩ := chk_some hr184
       refine mlI rfl rfl rfl hk185 (iaA U139 Z3 rfl rfl rfl (j := 2) rfl (by decide) (ld G3 rfl rfl ((sS 2 rfl hK30).drop 2) rfl ?_))
       obtain ⟨hk187, hr188⟩ := chk_some hr186
       refine adI rfl rfl rfl hk187 (fb 0 U124 rfl rfl rfl rfl Z81 (fb 2 U81 rfl rfl rfl rfl Z3 (ld G3 rfl rfl (((sS 0 rfl hK182).drop 2).take 1) rfl ?_)))
       obtain ⟨hk189, hr190⟩ := chk_some hr188
       refine sbI rfl rfl rfl hk189 (a1 rfl (on (sq ?_)))
       obtain ⟨t194, hx195, hr196⟩ := bd_some hr190
       refine jn (fun a w => St M W H [K181, K57, K29, K20, K5, H] [] w ∧ Has [] 122 a [(3, .pointer (some q4)), (10, .pointer (some q19)), (12, .pointer (some q28)), (17, .pointer (some q180)), (18, .int .i64 ((((r16.1.numbers.e1 - x172.place.column) * v_0.height) + r16.1.numbers.e2) - x172.place.line)), (19, .bool t194), (58, .slice (some p175) r54.length cap59), (59, .int .i64 (r54.length : Int)), (60, .int .i64 (s116 : Int))]) ?_ ?_
       ·refine rg (fb 4 U124 rfl rfl rfl rfl Z3 (ld G3 rfl rfl (((sS 0 rfl hK182).drop 4).take 1) rfl (iaA U139 Z3 rfl rfl rfl (j := 1) rfl (by decide) (ld G3 rfl rfl (((sS 2 rfl hK30).drop 1).take 1) rfl (eqI rfl rfl rfl (m1 rfl ?_))))))
        by_cases hb197 : x172.day = r16.1.numbers.e1
        ·have hr198 := if_p hb197 hx195
         refine gt hb197 rfl (fb 5 U124 rfl rfl rfl rfl Z3 (gt hb197 rfl (ld G3 rfl rfl ((sS 0 rfl hK182).drop 5) rfl (gt hb197 rfl (iaA U139 Z3 rfl rfl rfl (j := 2) rfl (by decide) (gt hb197 rfl (ld G3 rfl rfl ((sS 2 rfl hK30).drop 2) rfl (gt hb197 rfl (eqI rfl rfl rfl (pt hb197 rfl rfl (a1 rfl ?_)))))))))))
         refine on ?_
         cases hr198
         exact cu ⟨rfl, rfl, rfl, rfl, rfl, rfl, rfl, rfl, rfl, tv⟩
        ·have hr199 := if_n hb197 hx195
         refine gf hb197 rfl (gf hb197 rfl (gf hb197 rfl (gf hb197 rfl (gf hb197 rfl (pf hb197 rfl rfl (a1 rfl (on ?_)))))))
         cases hr199
         exact cu ⟨rfl, rfl, rfl, rfl, rfl, rfl, rfl, rfl, rfl, tv⟩
       ·rintro a w ⟨hS, hA⟩
        refine TG.ap ?_ hS hA
        refine sq (sq (rg (fb 0 U141 rfl rfl rfl rfl Z5 (ld G5 rfl rfl ((sS 3 rfl hK21).take 1) rfl (eqI rfl rfl rfl (on ?_))))))
        obtain ⟨t215, hx216, hr217⟩ := bd_some hr196
        refine jn (fun a w => St M W H [K181, K57, K29, K20, K5, H] [] w ∧ Has [] 122 a [(3, .pointer (some q4)), (10, .pointer (some q19)), (12, .pointer (some q28)), (17, .pointer (some q180)), (19, .bool t215), (58, .slice (some p175) r54.length cap59), (59, .int .i64 (r54.length : Int)), (60, .int .i64 (s116 : Int))]) ?_ ?_
        ·refine ci rfl (fun hc218 => ?_) (fun hc218 => ?_)
         ·have hr219 := if_p hc218 hx216
          obtain ⟨t231, hx232, hr233⟩ := bd_some hr219
          refine jn (fun a w => St M W H [K181, K57, K29, K20, K5, H] [] w ∧ Has [] 122 a [(3, .pointer (some q4)), (10, .pointer (some q19)), (12, .pointer (some q28)), (17, .pointer (some q180)), (19, .bool t231), (58, .slice (some p175) r54.length cap59), (59, .int .i64 (r54.length : Int)), (60, .int .i64 (s116 : Int))]) ?_ ?_
          ·refine rg (iaA U139 Z3 rfl rfl rfl (j := 2) rfl (by decide) (ld G3 rfl rfl ((sS 2 rfl hK30).drop 2) rfl (fb 2 U42 rfl rfl rfl rfl Z3 (ld G3 rfl rfl (((sS 4 rfl hK6).drop 2).take 1) rfl ?_))))
           obtain ⟨r234, hx235, hr236⟩ := bd_some hx232
           refine clS C44 rfl rfl rfl rfl (fun w H hH le => w44 r16.1.numbers.e2 1 v_0.height hx235) (m1 rfl ?_)
           rcases Bool.eq_false_or_eq_true (r234) with hb237 | hb237
           ·have hr238 := if_p hb237 hr236
            refine gN rfl rfl (hb237) (m1 rfl (gN rfl rfl (hb237) (fb 0 U124 rfl rfl rfl rfl Z81 (gN rfl rfl (hb237) (fb 3 U81 rfl rfl rfl rfl Z3 (gN rfl rfl (hb237) (ld G3 rfl rfl (((sS 0 rfl hK182).drop 3).take 1) rfl (gN rfl rfl (hb237) ?_))))))))
            obtain ⟨hk239, hr240⟩ := chk_some hr238
            refine sbI rfl rfl rfl hk239 (gN rfl rfl (hb237) ?_)
            obtain ⟨r241, hx242, hr243⟩ := bd_some hr240
            refine clS C44 rfl rfl rfl rfl (fun w H hH le => w44 ((((r16.1.numbers.e1 - x172.place.column) * v_0.height) + r16.1.numbers.e2) - x172.place.line) 0 (x172.place.lines - 1) hx242) (pT rfl rfl (hb237) rfl (a1 rfl (on ?_)))
            cases hr243
            exact cu ⟨rfl, rfl, rfl, rfl, rfl, rfl, rfl, rfl, tv⟩
           ·have hr244 := if_f hb237 hr236
            refine gF rfl rfl (hb237) rfl (gF rfl rfl (hb237) rfl (gF rfl rfl (hb237) rfl (gF rfl rfl (hb237) rfl (gF rfl rfl (hb237) rfl (gF rfl rfl (hb237) rfl (pF rfl rfl (hb237) rfl (a1 rfl (on ?_))))))))
            cases hr244
            exact cu ⟨rfl, rfl, rfl, rfl, rfl, rfl, rfl, rfl, tv⟩
          ·rintro a w ⟨hS, hA⟩
           refine TG.apJ ?_ hS hA
           cases hr233
           exact cu ⟨rfl, rfl, rfl, rfl, rfl, rfl, rfl, rfl, tv⟩
         ·have hr245 := if_n hc218 hx216
          refine sk ?_
          cases hr245
          exact cu ⟨rfl, rfl, rfl, rfl, rfl, rfl, rfl, rfl, tv⟩
        ·rintro a w ⟨hS, hA⟩
         refine TG.ap ?_ hS hA
         refine sq ?_
         obtain ⟨t249, hx250, hr251⟩ := bd_some hr217
         refine jn (fun a w => St M W H [K181, K57, K29, K20, K5, H] [] w ∧ Has [] 122 a [(3, .pointer (some q4)), (10, .pointer (some q19)), (12, .pointer (some q28)), (17, .pointer (some q180)), (58, .slice (some p175) r54.length cap59), (59, .int .i64 (r54.length : Int)), (60, .int .i64 (s116 : Int)), (115, .bool t249)]) ?_ ?_
         ·refine rg (m1 rfl (m1 rfl ?_))
          rcases Bool.eq_false_or_eq_true (t215) with hb252 | hb252
          ·have hr253 := if_p hb252 hx250
           refine gN rfl rfl (hb252) (iaA U139 Z3 rfl rfl rfl (j := 0) rfl (by decide) (gN rfl rfl (hb252) (ld G3 rfl rfl ((sS 2 rfl hK30).take 1) rfl (gN rfl rfl (hb252) (fb 0 U42 rfl rfl rfl rfl Z3 (gN rfl rfl (hb252) (ld G3 rfl rfl ((sS 4 rfl hK6).take 1) rfl (gN rfl rfl (hb252) (eqI rfl rfl rfl (pT rfl rfl (hb252) rfl (on ?_)))))))))))
           cases hr253
           exact cu ⟨rfl, rfl, rfl, rfl, rfl, rfl, rfl, rfl, tv⟩
          ·have hr254 := if_f hb252 hx250
           refine gF rfl rfl (hb252) rfl (gF rfl rfl (hb252) rfl (gF rfl rfl (hb252) rfl (gF rfl rfl (hb252) rfl (gF rfl rfl (hb252) rfl (pF rfl rfl (hb252) rfl (on ?_))))))
           cases hr254
           exact cu ⟨rfl, rfl, rfl, rfl, rfl, rfl, rfl, rfl, tv⟩
         ·rintro a w ⟨hS, hA⟩
          refine TG.ap ?_ hS hA
          refine cb rfl (fun hc259 => ?_) (fun hc259 => ?_)
          ·have hr260 := if_p hc259 hr251
           refine sq (drG 6 mixed (by kernel_rfl) rfl (dt rfl (fb 0 U124 rfl rfl rfl rfl Z81 fin1) (dt rfl (fb 0 U81 rfl rfl rfl rfl Z3 fin1) (dt rfl (ld G3 rfl rfl ((sS 1 rfl hK182).take 1) rfl fin1) (dt rfl (fb 1 U42 rfl rfl rfl rfl Z3 fin1) (dt rfl (ld G3 rfl rfl (((sS 5 rfl hK6).drop 1).take 1) rfl fin1) (dt rfl (a1 rfl fin1) (DF.nil fun K261 hF => (a1 rfl (a1 rfl (on ?_)))))))))))
           refine rt_ ?_
           cases hr260
           obtain rfl := Fin.out hz118
           cases hr114
           intro a w hS hA
           refine ret3 hA rfl rfl rfl rfl ?_
           exact ⟨rfl, hS.ext⟩
          ·have hr262 := if_f hc259 hr251
           refine sk (rg (adI rfl rfl rfl (by omega) (m1 rfl (on ?_))))
           cases hr262
           intro a w hS hA
           exact ⟨_, hz118, hS.selH [1, 2, 3, 4, 5] rfl, hA.cut ⟨rfl, rfl, rfl, rfl, rfl, rfl, tv⟩⟩
      ·have hr263 := if_n hc123 hr117
       refine xt rfl ?_
       cases hr263
       obtain rfl := Fin.out hz118
       intro a w hS hA
       exact ⟨_, rfl, hS, hA.cut tv⟩
    ·rintro a w ⟨t115, rfl, hS, hA⟩
     refine TG.ap ?_ hS hA
     refine sq (rg (a1 rfl (a1 rfl (a1 rfl (on (rt_ ?_))))))
     cases hr114
     intro a w hS hA
     refine ret3 hA rfl rfl rfl rfl ?_
     exact ⟨rfl, hS.ext⟩

theorem w25 {M : Prop} {W : World} {H : Hp} (hH : H.le (hp W)) {ad_l_0 : Option Addr} {cap_l_0 : Nat} {l_0 : List Bytes} (h_l_0 : Sl (Flat encS) 1 H ad_l_0 cap_l_0 l_0) (s_1 : Bytes) {r : Bool} (hr : m25 l_0 s_1 = some r) : Calls Tryz.prog 25 [.slice ad_l_0 l_0.length cap_l_0, .string (bs s_1)].toArray W (RetS M W (.bool r)) := by
 have := h_l_0.len
 unfold m25 at hr
 refine enterG (M := M) Tryz.func25 rfl Tryz.ntmps25 rfl hH ?_
 refine sq (rg (a1 rfl (on (sq (sq (rg (a1 rfl (on ?_))))))))
 obtain ⟨e16, hl17, hr18⟩ := bd_some hr
 refine jn (fun a w => ∃ t19, e16 = .inl t19 ∧ St M W H [H] [] w ∧ Has [] 18 a []) ?_ ?_
 ·refine bk ?_
  refine lp hl17 (fun s20 a w => St M W H [H] [] w ∧ Has [] 18 a [(0, .slice ad_l_0 l_0.length cap_l_0), (1, .string (bs s_1)), (5, .int .i64 (s20 : Int))]) ?_ ?_
  ·exact cu ⟨rfl, rfl, rfl, tv⟩
  ·rintro j s20 y23 hr21 hz22 a w ⟨hS, hA⟩
   refine TG.ap ?_ hS hA
   unfold m25_1 at hr21
   refine sq (sq (rg (m1 rfl (m1 rfl (lnL U77 rfl rfl (ltI rfl rfl rfl (on ?_)))))))
   refine ci rfl (fun hc27 => ?_) (fun hc27 => ?_)
   ·have hr28 := if_p hc27 hr21
    refine sk (sq (bk (sq (rg (m1 rfl (m1 rfl ?_))))))
    obtain ⟨x40, hx41, hr42⟩ := bd_some hr28
    obtain ⟨p43, rfl⟩ := h_l_0.adr hx41
    obtain ⟨cs44, hcs45, hq46, hr47⟩ := h_l_0.at hx41
    obtain rfl := hr47
    refine iaP U77 Z9 rfl rfl rfl rfl (lt_of hx41) (ld G9 rfl rfl (sS 0 rfl hq46) rfl (m1 rfl (eqS rfl rfl rfl (on ?_))))
    refine ci rfl (fun hc51 => ?_) (fun hc51 => ?_)
    ·have hr52 := if_p hc51 hr42
     refine sq (rg (a1 rfl (on (rt_ ?_))))
     cases hr52
     obtain rfl := Fin.out hz22
     cases hr18
     intro a w hS hA
     refine ret1 hA rfl rfl ?_
     exact ⟨rfl, hS.ext⟩
    ·have hr53 := if_n hc51 hr42
     refine sk (rg (m1 rfl (adI rfl rfl rfl (by omega) (a1 rfl (on ?_)))))
     cases hr53
     intro a w hS hA
     exact ⟨_, hz22, hS, hA.cut ⟨rfl, rfl, rfl, tv⟩⟩
   ·have hr54 := if_n hc27 hr21
    refine xt rfl ?_
    cases hr54
    obtain rfl := Fin.out hz22
    intro a w hS hA
    exact ⟨_, rfl, hS, hA.cut tv⟩
 ·rintro a w ⟨t19, rfl, hS, hA⟩
  refine TG.ap ?_ hS hA
  refine sq (rg (a1 rfl (on (rt_ ?_))))
  cases hr18
  intro a w hS hA
  refine ret1 hA rfl rfl ?_
  exact ⟨rfl, hS.ext⟩

end T10
