/-
 Walks of functions of layer 10: each call comes to what the model says. Printed by a program of ours.
-/
import Derived.Test.YtfdcbjoihcdneaaGreatDoorWalkB
set_option linter.all false
set_option maxHeartbeats 4000000
namespace T10
open Go Go.Proofs Pk
theorem w6 {M : Prop} {W : World} {H : Hp} (hH : H.le (hp W)) (hg : Gv M H) {cs_v_0 : List Value} (v_0 : Volume) (h_v_0 : (RVolume) H cs_v_0 v_0) {ad_errata : Option Addr} {cap_errata : Nat} {errata : List Erratum} (h_errata : Sl (Flat encErratum) 6 H ad_errata cap_errata errata) (which : Int) (day : Int) (later : Int) {r : Bool} (hr : m6 v_0 errata which day later = some r) : Calls Tryz.prog 6 [.agg cs_v_0.toArray, .slice ad_errata errata.length cap_errata, .int .u8 which, .int .u16 day, .int .u16 later].toArray W (RetS M W (.bool r)) := by
 have hh_v_0 := h_v_0
 obtain ⟨ad1, cap2, rfl, hl3⟩ := h_v_0
 have := hl3.len
 have := h_errata.len
 unfold m6 at hr
 refine enterG (M := M) Tryz.func6 rfl Tryz.ntmps6 rfl hH ?_
 refine sq (rg (bI (cs := [.int .i64 v_0.number, .int .i64 v_0.bound, .int .i64 v_0.height, .int .i64 v_0.width, .slice ad1 v_0.parts.length cap2]) rfl rfl rfl fun q4 K5 hK6 => (a1 rfl (on (sq (sq (rg (ldA G24 Z24 rfl rfl (sS 0 rfl hK6) rfl (m1 rfl ?_)))))))))
 obtain ⟨r7, hx8, hr9⟩ := bd_some hr
 refine clS C11 rfl rfl rfl rfl (fun w H hH le => w11 hH v_0 (RVolume.mono _ _ _ _ (le.at 1 rfl) hh_v_0) (h_errata.mono (Flat.mono _) (le.at 1 rfl)) hx8) (nt rfl rfl (on ?_))
 refine cb rfl (fun hc16 => ?_) (fun hc16 => ?_)
 ·replace hc16 := nbt hc16
  have hr17 := if_f hc16 hr9
  refine sq (rg ?_)
  obtain ⟨r18, hx19, hr20⟩ := bd_some hr17
  refine clS C12 rfl rfl rfl rfl (fun w H hH le => w12 hH (hg.mono (le.at 1 rfl))  hx19) (a1 rfl (on (rt_ ?_)))
  cases hr20
  intro a w hS hA
  refine ret1 hA rfl rfl ?_
  exact ⟨rfl, hS.ext⟩
 ·replace hc16 := nbf hc16
  have hr21 := if_p hc16 hr9
  refine sk (sq (rg (ldA G24 Z24 rfl rfl (sS 0 rfl hK6) rfl (m1 rfl ?_))))
  obtain ⟨r22, hx23, hr24⟩ := bd_some hr21
  refine clK C19 rfl rfl rfl rfl (fun w H hH le => w19 hH v_0 (RVolume.mono _ _ _ _ (le.at 1 rfl) hh_v_0) (h_errata.mono (Flat.mono _) (le.at 1 rfl)) 99999 hx23) ?_
  rintro v_ K25 ⟨ad26, cap27, rfl, hl28⟩
  have := hl28.len
  refine a1 rfl (on (sq (sq (rg (m1 rfl (lnL U47 rfl rfl (eqI rfl rfl rfl (on ?_))))))))
  refine ci rfl (fun hc35 => ?_) (fun hc35 => ?_)
  ·have hr36 := if_p hc35 hr24
   refine sq (rg ?_)
   obtain ⟨r37, hx38, hr39⟩ := bd_some hr36
   refine clS C12 rfl rfl rfl rfl (fun w H hH le => w12 hH (hg.mono (le.at 2 rfl))  hx38) (a1 rfl (on (rt_ ?_)))
   cases hr39
   intro a w hS hA
   refine ret1 hA rfl rfl ?_
   exact ⟨rfl, hS.ext⟩
  ·have hr40 := if_n hc35 hr24
   refine sk (sq (rg (m1 rfl (m1 rfl ?_))))
   obtain ⟨hk41, hr42⟩ := chk_some hr40
   refine cvI U5 U3 rfl rfl (wr_i64 hk41) (m1 rfl (lnL U47 rfl rfl ?_))
   obtain ⟨hk43, hr44⟩ := chk_some hr42
   have : 0 ≤ (which % (r22.length : Int)) ∧ (which % (r22.length : Int)) < (r22.length : Int) := have h := (hk43 : 0 ≤ which ∧ 0 < (r22.length : Int)); ⟨Int.emod_nonneg _ (by omega), Int.emod_lt_of_pos _ h.2⟩
   refine rmI rfl rfl rfl hk43 ?_
   obtain ⟨x45, hx46, hr47⟩ := bd_some hr44
   obtain ⟨p48, rfl⟩ := hl28.adr hx46
   obtain ⟨cs49, hcs50, hq51, hr52⟩ := hl28.at hx46
   obtain rfl := hr52
   refine iaP U47 Z52 rfl rfl rfl (by omega) (lt_of hx46) (fb 0 U52 rfl rfl rfl rfl Z50 (fb 0 U50 rfl rfl rfl rfl Z3 (ld G3 rfl rfl ((sS 0 rfl hq51).take 1) rfl (m1 rfl ?_))))
   obtain ⟨hk53, hr54⟩ := chk_some hr47
   refine cvI U28 U3 rfl rfl (wr_i64 hk53) (a1 rfl (a1 rfl (on (sq (rg (ldA G24 Z24 rfl rfl (sS 1 rfl hK6) rfl ?_))))))
   obtain ⟨r55, hx56, hr57⟩ := bd_some hr54
   refine clK C14 rfl rfl rfl rfl (fun w H hH le => w14 hH v_0 (RVolume.mono _ _ _ _ (le.at 2 rfl) hh_v_0) hx56) ?_
   rintro v_ K58 ⟨cs59, rfl, hr60⟩
   have hr61 := hr60
   obtain ⟨ad62, cap63, rfl, hl64⟩ := hr60
   have := hl64.len
   refine m1 rfl ?_
   obtain ⟨r65, hx66, hr67⟩ := bd_some hr57
   refine clK C15 rfl rfl rfl rfl (fun w H hH le => w15 hH (h_errata.mono (Flat.mono _) (le.at 3 rfl)) hx66) ?_
   rintro v_ K68 ⟨ad69, cap70, rfl, hl71⟩
   have := hl71.len
   refine m1 rfl (m1 rfl ?_)
   obtain ⟨r72, hx73, hr74⟩ := bd_some hr67
   refine clS C23 rfl rfl rfl rfl (fun w H hH le => w23 hH r55 (RVolume.mono _ _ _ _ (le.at 1 rfl) hr61) (hl71.mono (Flat.mono _) (le.at 0 rfl)) x45.paragraph.anchor day hx73) (m1 rfl (ex rfl rfl rfl (ex rfl rfl rfl (ex rfl rfl rfl (a1 rfl (a1 rfl (a1 rfl (on (sq (rg (ldA G24 Z24 rfl rfl (sS 3 rfl hK6) rfl ?_)))))))))))
   refine clK C14 rfl rfl rfl rfl (fun w H hH le => w14 hH v_0 (RVolume.mono _ _ _ _ (le.at 4 rfl) hh_v_0) hx56) ?_
   rintro v_ K75 ⟨cs76, rfl, hr77⟩
   have hr78 := hr77
   obtain ⟨ad79, cap80, rfl, hl81⟩ := hr77
   have := hl81.len
   refine m1 rfl (clK C15 rfl rfl rfl rfl (fun w H hH le => w15 hH (h_errata.mono (Flat.mono _) (le.at 5 rfl)) hx66) ?_)
   rintro v_ K82 ⟨ad83, cap84, rfl, hl85⟩
   have := hl85.len
   refine m1 rfl (m1 rfl (m1 rfl ?_))
   obtain ⟨hk86, hr87⟩ := chk_some hr74
   refine cvI U28 U3 rfl rfl (wr_i64 hk86) ?_
   obtain ⟨hk88, hr89⟩ := chk_some hr87
   refine adI rfl rfl rfl hk88 (mn2 rfl rfl rfl ?_)
   obtain ⟨r90, hx91, hr92⟩ := bd_some hr89
   refine clS C23 rfl rfl rfl rfl (fun w H hH le => w23 hH r55 (RVolume.mono _ _ _ _ (le.at 1 rfl) hr78) (hl85.mono (Flat.mono _) (le.at 0 rfl)) x45.paragraph.anchor (min 99999 (day + later)) hx91) (m1 rfl (ex rfl rfl rfl (ex rfl rfl rfl (ex rfl rfl rfl (a1 rfl (a1 rfl (a1 rfl (on (sq (sq (rg ?_)))))))))))
   refine m1 rfl (neI rfl rfl rfl (on ?_))
   refine ci rfl (fun hc112 => ?_) (fun hc112 => ?_)
   ·have hr113 := if_p hc112 hr92
    refine sq ?_
    obtain ⟨t129, hx130, hr131⟩ := bd_some hr113
    refine jn (fun a w => St M W H [K82, K75, K68, K58, K25, K5, H] [] w ∧ Has [] 102 a [(10, .bool t129)]) ?_ ?_
    ·refine rg (m1 rfl (eqI rfl rfl rfl (m1 rfl ?_)))
     by_cases hb132 : r72.2.2 = 7
     ·have hr133 := if_p hb132 hx130
      refine gt hb132 rfl (m1 rfl (gt hb132 rfl (eqI rfl rfl rfl (gt hb132 rfl (m1 rfl ?_)))))
      by_cases hb134 : r90.2.2 = 0
      ·have hr135 := if_p hb134 hr133
       refine gf' hb134 rfl (gf' hb134 rfl (gt hb132 rfl (pt hb134 rfl rfl (pt hb132 rfl rfl (m1 rfl (gN rfl rfl rfl ?_))))))
       obtain ⟨r136, hx137, hr138⟩ := bd_some hr135
       refine clS C12 rfl rfl rfl rfl (fun w H hH le => w12 hH (hg.mono (le.at 6 rfl))  hx137) (pT rfl rfl rfl rfl (a1 rfl (on ?_)))
       cases hr138
       exact cu ⟨rfl, tv⟩
      ·have hr139 := if_n hb134 hr133
       refine gt' hb134 rfl (m1 rfl (gt' hb134 rfl (eqI rfl rfl rfl (gt hb132 rfl (pf hb134 rfl rfl (pt hb132 rfl rfl (m1 rfl ?_)))))))
       by_cases hb140 : r90.2.2 = 7
       ·have hr141 := if_p hb140 hr139
        refine gt hb140 rfl ?_
        obtain ⟨r142, hx143, hr144⟩ := bd_some hr141
        refine clS C12 rfl rfl rfl rfl (fun w H hH le => w12 hH (hg.mono (le.at 6 rfl))  hx143) (pt hb140 rfl rfl (a1 rfl (on ?_)))
        cases hr144
        exact cu ⟨rfl, tv⟩
       ·have hr145 := if_n hb140 hr139
        refine gf hb140 rfl (pf hb140 rfl rfl (a1 rfl (on ?_)))
        cases hr145
        exact cu ⟨rfl, tv⟩
     ·have hr146 := if_n hb132 hx130
      refine gf hb132 rfl (gf hb132 rfl (gf hb132 rfl (gU rfl rfl rfl (gU rfl rfl rfl (gf hb132 rfl (pf hb132 rfl rfl (m1 rfl (gF rfl rfl rfl rfl (pF rfl rfl rfl rfl (a1 rfl (on ?_)))))))))))
      cases hr146
      exact cu ⟨rfl, tv⟩
    ·rintro a w ⟨hS, hA⟩
     refine TG.ap ?_ hS hA
     refine rt_ ?_
     cases hr131
     intro a w hS hA
     refine ret1 hA rfl rfl ?_
     exact ⟨rfl, hS.ext⟩
   ·have hr147 := if_n hc112 hr92
    refine sk (sq ?_)
    obtain ⟨t166, hx167, hr168⟩ := bd_some hr147
    refine jn (fun a w => St M W H [K82, K75, K68, K58, K25, K5, H] [] w ∧ Has [] 102 a [(10, .bool t166)]) ?_ ?_
    ·refine rg (m1 rfl (eqI rfl rfl rfl (m1 rfl ?_)))
     by_cases hb169 : r90.2.2 = 0
     ·have hr170 := if_p hb169 hx167
      refine gt hb169 rfl (m1 rfl (gt hb169 rfl (nt rfl rfl (gt hb169 rfl (m1 rfl ?_)))))
      rcases Bool.eq_false_or_eq_true (r72.2.1) with hb171 | hb171
      ·have hr172 := if_p hb171 hr170
       refine gN rfl rfl (congrArg not (hb171)) (m1 rfl (gN rfl rfl (congrArg not (hb171)) (m1 rfl ?_)))
       rcases Bool.eq_false_or_eq_true (r90.2.1) with hb173 | hb173
       ·have hr174 := if_p hb173 hr172
        refine gN rfl rfl (hb173) (m1 rfl (gN rfl rfl (hb173) (m1 rfl (gN rfl rfl (hb173) (eqS rfl rfl rfl (gN rfl rfl (congrArg not (hb171)) (pT rfl rfl (hb173) rfl (gt hb169 rfl (pF rfl rfl (congrArg not (hb171)) rfl (pt hb169 rfl rfl (m1 rfl ?_)))))))))))
        by_cases hb175 : r72.1 = r90.1
        ·have hr176 := if_p hb175 hr174
         refine gt hb175 rfl ?_
         obtain ⟨r177, hx178, hr179⟩ := bd_some hr176
         refine clS C12 rfl rfl rfl rfl (fun w H hH le => w12 hH (hg.mono (le.at 6 rfl))  hx178) (pt hb175 rfl rfl (a1 rfl (on ?_)))
         cases hr179
         exact cu ⟨rfl, tv⟩
        ·have hr180 := if_n hb175 hr174
         refine gf hb175 rfl (pf hb175 rfl rfl (a1 rfl (on ?_)))
         cases hr180
         exact cu ⟨rfl, tv⟩
       ·have hr181 := if_f hb173 hr172
        refine gF rfl rfl (hb173) rfl (gF rfl rfl (hb173) rfl (gF rfl rfl (hb173) rfl (gN rfl rfl (congrArg not (hb171)) (pF rfl rfl (hb173) rfl (gt hb169 rfl (pF rfl rfl (congrArg not (hb171)) rfl (pt hb169 rfl rfl (m1 rfl (gF rfl rfl rfl rfl (pF rfl rfl rfl rfl (a1 rfl ?_)))))))))))
        refine on ?_
        cases hr181
        exact cu ⟨rfl, tv⟩
      ·have hr182 := if_f hb171 hr170
       refine gF rfl rfl (congrArg not (hb171)) rfl (gF rfl rfl (congrArg not (hb171)) rfl (gU rfl rfl rfl (gU rfl rfl rfl (gU rfl rfl rfl (gF rfl rfl (congrArg not (hb171)) rfl (gt hb169 rfl (pT rfl rfl (congrArg not (hb171)) rfl (pt hb169 rfl rfl (m1 rfl (gN rfl rfl rfl ?_))))))))))
       obtain ⟨r183, hx184, hr185⟩ := bd_some hr182
       refine clS C12 rfl rfl rfl rfl (fun w H hH le => w12 hH (hg.mono (le.at 6 rfl))  hx184) (pT rfl rfl rfl rfl (a1 rfl (on ?_)))
       cases hr185
       exact cu ⟨rfl, tv⟩
     ·have hr186 := if_n hb169 hx167
      refine gf hb169 rfl (gf hb169 rfl (gf hb169 rfl (gU rfl rfl rfl (gU rfl rfl rfl (gU rfl rfl rfl (gU rfl rfl rfl (gU rfl rfl rfl (gU rfl rfl rfl (gf hb169 rfl (pf hb169 rfl rfl (m1 rfl ?_)))))))))))
      refine gF rfl rfl rfl rfl (pF rfl rfl rfl rfl (a1 rfl (on ?_)))
      cases hr186
      exact cu ⟨rfl, tv⟩
    ·rintro a w ⟨hS, hA⟩
     refine TG.ap ?_ hS hA
     refine rt_ ?_
     cases hr168
     intro a w hS hA
     refine ret1 hA rfl rfl ?_
     exact ⟨rfl, hS.ext⟩

end T10
