/-
 Walks of functions of layer 10: each call comes to what the model says. Printed by a program of ours.
-/
import Derived.Test.YtfdcbjoihcdneaaGreatDoorWalkB
set_option linter.all false
set_option maxHeartbeats 4000000
namespace T10
open Go Go.Proofs Pk
theorem w7 {M : Prop} {W : World} {H : Hp} (hH : H.le (hp W)) (hg : Gv M H) {cs_v_0 : List Value} (v_0 : Volume) (h_v_0 : (RVolume) H cs_v_0 v_0) {ad_errata : Option Addr} {cap_errata : Nat} {errata : List Erratum} (h_errata : Sl (Flat encErratum) 6 H ad_errata cap_errata errata) (day : Int) (which : Int) {r : Bool} (hr : m7 v_0 errata day which = some r) : Calls Tryz.prog 7 [.agg cs_v_0.toArray, .slice ad_errata errata.length cap_errata, .int .u16 day, .int .u8 which].toArray W (RetS M W (.bool r)) := by
 have hh_v_0 := h_v_0
 obtain ⟨ad1, cap2, rfl, hl3⟩ := h_v_0
 have := hl3.len
 have := h_errata.len
 unfold m7 at hr
 refine enterG (M := M) Tryz.func7 rfl Tryz.ntmps7 rfl hH ?_
 refine sq (rg (bI (cs := [.int .i64 v_0.number, .int .i64 v_0.bound, .int .i64 v_0.height, .int .i64 v_0.width, .slice ad1 v_0.parts.length cap2]) rfl rfl rfl fun q4 K5 hK6 => (a1 rfl (on (sq (sq (rg (ldA G24 Z24 rfl rfl (sS 0 rfl hK6) rfl (m1 rfl ?_)))))))))
 obtain ⟨r7, hx8, hr9⟩ := bd_some hr
 refine clS C11 rfl rfl rfl rfl (fun w H hH le => w11 hH v_0 (RVolume.mono _ _ _ _ (le.at 1 rfl) hh_v_0) (h_errata.mono (Flat.mono _) (le.at 1 rfl)) hx8) (nt rfl rfl (on ?_))
 refine cb rfl (fun hc16 => ?_) (fun hc16 => ?_)
 ·replace hc16 := nbt hc16
  have hr17 := if_f hc16 hr9
  refine sq (rg ?_)
  obtain ⟨r18, hx19, hr20⟩ := bd_some hr17
  refine clS C12 rfl rfl rfl rfl (fun w H hH le => w12 hH (hg.mono (le.at 1 rfl))  hx19) (a1 rfl (on (rt_ ?_)))
  cases hr20
  intro a w hS hA
  refine ret1 hA rfl rfl ?_
  exact ⟨rfl, hS.ext⟩
 ·replace hc16 := nbf hc16
  have hr21 := if_p hc16 hr9
  refine sk (sq (rg (ldA G24 Z24 rfl rfl (sS 0 rfl hK6) rfl ?_)))
  obtain ⟨r22, hx23, hr24⟩ := bd_some hr21
  refine clK C14 rfl rfl rfl rfl (fun w H hH le => w14 hH v_0 (RVolume.mono _ _ _ _ (le.at 1 rfl) hh_v_0) hx23) ?_
  rintro v_ K25 ⟨cs26, rfl, hr27⟩
  have hr28 := hr27
  obtain ⟨ad29, cap30, rfl, hl31⟩ := hr27
  have := hl31.len
  refine m1 rfl ?_
  obtain ⟨r32, hx33, hr34⟩ := bd_some hr24
  refine clK C15 rfl rfl rfl rfl (fun w H hH le => w15 hH (h_errata.mono (Flat.mono _) (le.at 2 rfl)) hx33) ?_
  rintro v_ K35 ⟨ad36, cap37, rfl, hl38⟩
  have := hl38.len
  refine m1 rfl ?_
  obtain ⟨hk39, hr40⟩ := chk_some hr34
  refine cvI U28 U3 rfl rfl (wr_i64 hk39) ?_
  obtain ⟨r41, hx42, hr43⟩ := bd_some hr40
  refine clK C13 rfl rfl rfl rfl (fun w H hH le => w13 hH r22 (RVolume.mono _ _ _ _ (le.at 1 rfl) hr28) (hl38.mono (Flat.mono _) (le.at 0 rfl)) day hx42) ?_
  rintro v_ K44 ⟨ad45, cap46, rfl, hl47⟩
  have := hl47.len
  refine m1 rfl (ex rfl rfl rfl (ex rfl rfl rfl (a1 rfl (a1 rfl (on (sq (sq (rg (m1 rfl (neI rfl rfl rfl (on ?_)))))))))))
  refine ci rfl (fun hc51 => ?_) (fun hc51 => ?_)
  ·have hr52 := if_p hc51 hr43
   refine sq (rg (a1 rfl (on (rt_ ?_))))
   cases hr52
   intro a w hS hA
   refine ret1 hA rfl rfl ?_
   exact ⟨rfl, hS.ext⟩
  ·have hr53 := if_n hc51 hr43
   refine sk (sq (sq (rg (a1 rfl (on ?_)))))
   obtain ⟨e96, hl97, hr98⟩ := bd_some hr53
   refine jn (fun a w => ∃ t99, e96 = .inl t99 ∧ St M W H [K44, K35, K25, K5, H] [] w ∧ Has [] 136 a [(1, .slice ad_errata errata.length cap_errata), (2, .int .u16 day), (3, .int .u8 which), (4, .pointer (some q4)), (9, .slice ad45 r41.1.length cap46)]) ?_ ?_
   ·refine bk ?_
    refine lp hl97 (fun s100 a w => St M W H [K44, K35, K25, K5, H] [] w ∧ Has [] 136 a [(1, .slice ad_errata errata.length cap_errata), (2, .int .u16 day), (3, .int .u8 which), (4, .pointer (some q4)), (9, .slice ad45 r41.1.length cap46), (11, .int .i64 (s100 : Int))]) ?_ ?_
    ·exact cu ⟨rfl, rfl, rfl, rfl, rfl, rfl, tv⟩
    ·rintro j s100 y103 hr101 hz102 a w ⟨hS, hA⟩
     refine TG.ap ?_ hS hA
     unfold m7_1 at hr101
     refine sq (sq (rg (m1 rfl (m1 rfl (lnL U31 rfl rfl (ltI rfl rfl rfl (on ?_)))))))
     refine ci rfl (fun hc107 => ?_) (fun hc107 => ?_)
     ·have hr108 := if_p hc107 hr101
      refine sk (sq (bk (sq ?_)))
      obtain ⟨x159, hx160, hr161⟩ := bd_some hr108
      obtain ⟨p162, rfl⟩ := hl47.adr hx160
      obtain ⟨cs163, hcs164, hq165, hr166⟩ := hl47.at hx160
      obtain rfl := hr166
      obtain ⟨r167, hx168, hr169⟩ := bd_some hr161
      refine drG 18 mixed (by kernel_rfl) rfl (dt rfl (ldA G24 Z24 rfl rfl (sS 4 rfl hK6) rfl fin1) ?_)
      refine DF.und (α := List Value) [] (fun q => .agg q.toArray) (fun (q : List Value) K => (RVolume) K q r22) (fun _ _ _ h x => RVolume.mono _ _ _ _ h x) (by kernel_rfl) rfl (fun a w K hS hA hF => TG.pa hS hA (clK C14 rfl rfl rfl rfl (fun w H hH le => w14 hH v_0 (RVolume.mono _ _ _ _ (le.at 5 rfl) hh_v_0) hx23) (by
        rintro v_ K147 ⟨cs148, rfl, hr149⟩
        exact finU (f := fun q => .agg q.toArray) (G := (fun (q : List Value) K => (RVolume) K q r22)) _ (fun _ _ _ h x => RVolume.mono _ _ _ _ h x) hr149))) fun cs151 => ?_
      refine dt rfl (m1 rfl fin1) ?_
      refine DF.und (α := Option Addr × Nat) (none, 0) (fun q => .slice q.1 r32.length q.2) (fun (q : Option Addr × Nat) K => Sl (Flat encErratum) 6 K q.1 q.2 r32) (fun _ _ _ h x => x.mono (Flat.mono _) h) (by kernel_rfl) rfl (fun a w K hS hA hF => TG.pa hS hA (clK C15 rfl rfl rfl rfl (fun w H hH le => w15 hH (h_errata.mono (Flat.mono _) (le.at 5 rfl)) hx33) (by
        rintro v_ K152 ⟨ad153, cap154, rfl, hl155⟩
        exact finU (f := fun q => .slice q.1 r32.length q.2) (G := (fun (q : Option Addr × Nat) K => Sl (Flat encErratum) 6 K q.1 q.2 r32)) (_, _) (fun _ _ _ h x => x.mono (Flat.mono _) h) hl155))) ?_
      rintro ⟨ad157, cap158⟩
      refine dt rfl (m1 rfl fin1) (dt rfl (m1 rfl fin1) (dt rfl (iaP U31 Z67 rfl rfl rfl rfl (lt_of hx160) fin1) (dt rfl (fb 0 U67 rfl rfl rfl rfl Z3 fin1) (dt rfl (ld G3 rfl rfl ((sS 1 rfl hq165).take 1) rfl fin1) (dt rfl (m1 rfl fin1) (dt rfl (cvI U28 U3 rfl rfl (wr_i64 hk39) fin1) (DF.det rfl (fun a w K hS hA hF => TG.pa hS hA (clS C23 rfl rfl rfl rfl (fun w H hH le => w23 hH r22 (RVolume.mono _ _ _ _ (le.at 0 rfl) (hF.2.1 rfl)) ((hF.1 rfl).mono (Flat.mono _) (le.at 0 rfl)) x159.anchor day hx168) fin1)) (dt rfl (m1 rfl fin1) (dt rfl (ex rfl rfl rfl fin1) (dt rfl (ex rfl rfl rfl fin1) (dt rfl (ex rfl rfl rfl fin1) ?_)))))))))))
      refine dt rfl (a1 rfl fin1) (dt rfl (a1 rfl fin1) (DF.nil fun K170 hF => ?_))
      obtain ⟨hu156, hu150, _⟩ := hF
      have hr171 := hu150
      obtain ⟨ad172, cap173, rfl, hl174⟩ := hu150
      have := hl174.len
      have := hu156.len
      refine a1 rfl (on (sq ?_))
      obtain ⟨t181, hx182, hr183⟩ := bd_some hr169
      refine jn (fun a w => St M W H [K170, K44, K35, K25, K5, H] [] w ∧ Has [] 136 a [(1, .slice ad_errata errata.length cap_errata), (2, .int .u16 day), (3, .int .u8 which), (4, .pointer (some q4)), (9, .slice (some p162) r41.1.length cap46), (11, .int .i64 (s100 : Int)), (74, .bool t181)]) ?_ ?_
      ·refine rg (m1 rfl (neI rfl rfl rfl (m1 rfl ?_)))
       by_cases hb184 : r167.2.2 ≠ 0
       ·have hr185 := if_p hb184 hx182
        refine gf' hb184 rfl (pt hb184 rfl rfl (m1 rfl (gF rfl rfl rfl rfl (gF rfl rfl rfl rfl (gF rfl rfl rfl rfl (gF rfl rfl rfl rfl (gF rfl rfl rfl rfl (gF rfl rfl rfl rfl (gF rfl rfl rfl rfl (pT rfl rfl rfl rfl (on ?_)))))))))))
        cases hr185
        exact cu ⟨rfl, rfl, rfl, rfl, rfl, rfl, rfl, tv⟩
       ·have hr186 := if_n hb184 hx182
        refine gt' hb184 rfl (m1 rfl (pf hb184 rfl rfl (m1 rfl ?_)))
        rcases Bool.eq_false_or_eq_true (r167.2.1) with hb187 | hb187
        ·have hr188 := if_p hb187 hr186
         refine gF rfl rfl (hb187) rfl (gF rfl rfl (hb187) rfl (gF rfl rfl (hb187) rfl (gF rfl rfl (hb187) rfl (gF rfl rfl (hb187) rfl (gF rfl rfl (hb187) rfl (gF rfl rfl (hb187) rfl (pT rfl rfl (hb187) rfl (on ?_))))))))
         cases hr188
         exact cu ⟨rfl, rfl, rfl, rfl, rfl, rfl, rfl, tv⟩
        ·have hr189 := if_f hb187 hr186
         refine gN rfl rfl (hb187) (m1 rfl (gN rfl rfl (hb187) (m1 rfl (gN rfl rfl (hb187) (m1 rfl (gN rfl rfl (hb187) (iaP U31 Z67 rfl rfl rfl rfl (lt_of hx160) (gN rfl rfl (hb187) (fb 1 U67 rfl rfl rfl rfl Z9 (gN rfl rfl (hb187) (ld G9 rfl rfl ((sS 1 rfl hq165).drop 1) rfl ?_)))))))))))
         refine gN rfl rfl (hb187) (neS rfl rfl rfl (pF rfl rfl (hb187) rfl (on ?_)))
         cases hr189
         exact cu ⟨rfl, rfl, rfl, rfl, rfl, rfl, rfl, tv⟩
      ·rintro a w ⟨hS, hA⟩
       refine TG.ap ?_ hS hA
       refine cb rfl (fun hc193 => ?_) (fun hc193 => ?_)
       ·have hr194 := if_p hc193 hr183
        refine sq (rg (a1 rfl (on (rt_ ?_))))
        cases hr194
        obtain rfl := Fin.out hz102
        cases hr98
        intro a w hS hA
        refine ret1 hA rfl rfl ?_
        exact ⟨rfl, hS.ext⟩
       ·have hr195 := if_f hc193 hr183
        refine sk (rg (m1 rfl (adI rfl rfl rfl (by omega) (a1 rfl (on ?_)))))
        cases hr195
        intro a w hS hA
        exact ⟨_, hz102, hS.selH [1, 2, 3, 4, 5] rfl, hA.cut ⟨rfl, rfl, rfl, rfl, rfl, rfl, tv⟩⟩
     ·have hr196 := if_n hc107 hr101
      refine xt rfl ?_
      cases hr196
      obtain rfl := Fin.out hz102
      intro a w hS hA
      exact ⟨_, rfl, hS, hA.cut ⟨rfl, rfl, rfl, rfl, rfl, tv⟩⟩
   ·rintro a w ⟨t99, rfl, hS, hA⟩
    refine TG.ap ?_ hS hA
    refine sq (rg (ldA G24 Z24 rfl rfl (sS 3 rfl hK6) rfl (m1 rfl ?_)))
    obtain ⟨r197, hx198, hr199⟩ := bd_some hr98
    refine clK C19 rfl rfl rfl rfl (fun w H hH le => w19 hH v_0 (RVolume.mono _ _ _ _ (le.at 4 rfl) hh_v_0) (h_errata.mono (Flat.mono _) (le.at 4 rfl)) 99999 hx198) ?_
    rintro v_ K200 ⟨ad201, cap202, rfl, hl203⟩
    have := hl203.len
    refine a1 rfl (on (sq (sq (rg (m1 rfl (lnL U47 rfl rfl (eqI rfl rfl rfl (on ?_))))))))
    refine ci rfl (fun hc214 => ?_) (fun hc214 => ?_)
    ·have hr215 := if_p hc214 hr199
     refine sq ?_
     obtain ⟨t222, hx223, hr224⟩ := bd_some hr215
     refine jn (fun a w => St M W H [K200, K44, K35, K25, K5, H] [] w ∧ Has [] 136 a [(8, .bool t222)]) ?_ ?_
     ·refine rg (m1 rfl (lnL U31 rfl rfl (eqI rfl rfl rfl (m1 rfl ?_))))
      by_cases hb225 : (r41.1.length : Int) = 0
      ·have hr226 := if_p hb225 hx223
       refine gt hb225 rfl ?_
       obtain ⟨r227, hx228, hr229⟩ := bd_some hr226
       refine clS C12 rfl rfl rfl rfl (fun w H hH le => w12 hH (hg.mono (le.at 5 rfl))  hx228) (pt hb225 rfl rfl (a1 rfl (on ?_)))
       cases hr229
       exact cu ⟨rfl, tv⟩
      ·have hr230 := if_n hb225 hx223
       refine gf hb225 rfl (pf hb225 rfl rfl (a1 rfl (on ?_)))
       cases hr230
       exact cu ⟨rfl, tv⟩
     ·rintro a w ⟨hS, hA⟩
      refine TG.ap ?_ hS hA
      refine rt_ ?_
      cases hr224
      intro a w hS hA
      refine ret1 hA rfl rfl ?_
      exact ⟨rfl, hS.ext⟩
    ·have hr231 := if_n hc214 hr199
     refine sk (sq (rg (m1 rfl (m1 rfl ?_))))
     obtain ⟨hk232, hr233⟩ := chk_some hr231
     refine cvI U5 U3 rfl rfl (wr_i64 hk232) (m1 rfl (lnL U47 rfl rfl ?_))
     obtain ⟨hk234, hr235⟩ := chk_some hr233
     have : 0 ≤ (which % (r197.length : Int)) ∧ (which % (r197.length : Int)) < (r197.length : Int) := have h := (hk234 : 0 ≤ which ∧ 0 < (r197.length : Int)); ⟨Int.emod_nonneg _ (by omega), Int.emod_lt_of_pos _ h.2⟩
     refine rmI rfl rfl rfl hk234 ?_
     obtain ⟨x236, hx237, hr238⟩ := bd_some hr235
     obtain ⟨p239, rfl⟩ := hl203.adr hx237
     obtain ⟨cs240, hcs241, hq242, hr243⟩ := hl203.at hx237
     obtain rfl := hr243
     refine iaP U47 Z52 rfl rfl rfl (by omega) (lt_of hx237) (fb 0 U52 rfl rfl rfl rfl Z50 (fb 0 U50 rfl rfl rfl rfl Z3 (ld G3 rfl rfl ((sS 0 rfl hq242).take 1) rfl (a1 rfl (on (sq (rg (ldA G24 Z24 rfl rfl (sS 4 rfl hK6) rfl (clK C14 rfl rfl rfl rfl (fun w H hH le => w14 hH v_0 (RVolume.mono _ _ _ _ (le.at 5 rfl) hh_v_0) hx23) ?_)))))))))
     rintro v_ K244 ⟨cs245, rfl, hr246⟩
     have hr247 := hr246
     obtain ⟨ad248, cap249, rfl, hl250⟩ := hr246
     have := hl250.len
     refine m1 rfl (clK C15 rfl rfl rfl rfl (fun w H hH le => w15 hH (h_errata.mono (Flat.mono _) (le.at 6 rfl)) hx33) ?_)
     rintro v_ K251 ⟨ad252, cap253, rfl, hl254⟩
     have := hl254.len
     refine m1 rfl (m1 rfl (cvI U28 U3 rfl rfl (wr_i64 hk39) ?_))
     obtain ⟨r255, hx256, hr257⟩ := bd_some hr238
     refine clS C23 rfl rfl rfl rfl (fun w H hH le => w23 hH r22 (RVolume.mono _ _ _ _ (le.at 1 rfl) hr247) (hl254.mono (Flat.mono _) (le.at 0 rfl)) x236.paragraph.anchor day hx256) (m1 rfl (ex rfl rfl rfl (ex rfl rfl rfl (ex rfl rfl rfl (a1 rfl (a1 rfl (a1 rfl (on (sq (rg (a1 rfl ?_)))))))))))
     refine on (sq (sq (rg (a1 rfl (on ?_)))))
     obtain ⟨e274, hl275, hr276⟩ := bd_some hr257
     refine jn (fun a w => St M W H [K251, K244, K200, K44, K35, K25, K5, H] [] w ∧ Has [] 136 a [(18, .bool r255.2.1), (19, .int .i64 r255.2.2), (20, .bool e274)]) ?_ ?_
     ·refine bk ?_
      refine lp hl275 (fun s277 a w => St M W H [K251, K244, K200, K44, K35, K25, K5, H] [] w ∧ Has [] 136 a [(9, .slice ad45 r41.1.length cap46), (16, .int .i64 x236.paragraph.anchor), (18, .bool r255.2.1), (19, .int .i64 r255.2.2), (20, .bool s277.2), (21, .int .i64 (s277.1 : Int))]) ?_ ?_
      ·exact cu ⟨rfl, rfl, rfl, rfl, rfl, rfl, tv⟩
      ·rintro j s277 y280 hr278 hz279 a w ⟨hS, hA⟩
       refine TG.ap ?_ hS hA
       unfold m7_2 at hr278
       refine sq (sq (rg (m1 rfl (m1 rfl (lnL U31 rfl rfl (ltI rfl rfl rfl (on ?_)))))))
       refine ci rfl (fun hc284 => ?_) (fun hc284 => ?_)
       ·have hr285 := if_p hc284 hr278
        refine sk (sq (bk ?_))
        obtain ⟨t309, hx310, hr311⟩ := bd_some hr285
        refine jn (fun a w => St M W H [K251, K244, K200, K44, K35, K25, K5, H] [] w ∧ Has [] 136 a [(9, .slice ad45 r41.1.length cap46), (16, .int .i64 x236.paragraph.anchor), (18, .bool r255.2.1), (19, .int .i64 r255.2.2), (20, .bool t309), (21, .int .i64 (s277.1 : Int))]) ?_ ?_
        ·refine rg (m1 rfl (m1 rfl ?_))
         rcases Bool.eq_false_or_eq_true (s277.2) with hb312 | hb312
         ·have hr313 := if_p hb312 hx310
          refine gF rfl rfl (hb312) rfl (gF rfl rfl (hb312) rfl (gF rfl rfl (hb312) rfl (gF rfl rfl (hb312) rfl (gF rfl rfl (hb312) rfl (gF rfl rfl (hb312) rfl (gF rfl rfl (hb312) rfl (pT rfl rfl (hb312) rfl (a1 rfl (on ?_)))))))))
          cases hr313
          exact cu ⟨rfl, rfl, rfl, rfl, rfl, rfl, tv⟩
         ·have hr314 := if_f hb312 hx310
          refine gN rfl rfl (hb312) (m1 rfl (gN rfl rfl (hb312) (m1 rfl (gN rfl rfl (hb312) ?_))))
          obtain ⟨x315, hx316, hr317⟩ := bd_some hr314
          obtain ⟨p318, rfl⟩ := hl47.adr hx316
          obtain ⟨cs319, hcs320, hq321, hr322⟩ := hl47.at hx316
          obtain rfl := hr322
          refine iaP U31 Z67 rfl rfl rfl rfl (lt_of hx316) (gN rfl rfl (hb312) (fb 0 U67 rfl rfl rfl rfl Z3 (gN rfl rfl (hb312) (ld G3 rfl rfl ((sS 3 rfl hq321).take 1) rfl (gN rfl rfl (hb312) (m1 rfl (gN rfl rfl (hb312) (eqI rfl rfl rfl (pF rfl rfl (hb312) rfl (a1 rfl (on ?_)))))))))))
          cases hr317
          exact cu ⟨rfl, rfl, rfl, rfl, rfl, rfl, tv⟩
        ·rintro a w ⟨hS, hA⟩
         refine TG.ap ?_ hS hA
         refine rg (m1 rfl (adI rfl rfl rfl (by omega) (a1 rfl (on ?_))))
         cases hr311
         intro a w hS hA
         exact ⟨_, hz279, hS, hA.cut ⟨rfl, rfl, rfl, rfl, rfl, rfl, tv⟩⟩
       ·have hr323 := if_n hc284 hr278
        refine xt rfl ?_
        cases hr323
        obtain rfl := Fin.out hz279
        exact cu ⟨rfl, rfl, rfl, tv⟩
     ·rintro a w ⟨hS, hA⟩
      refine TG.ap ?_ hS hA
      refine sq ?_
      obtain ⟨t339, hx340, hr341⟩ := bd_some hr276
      refine jn (fun a w => St M W H [K251, K244, K200, K44, K35, K25, K5, H] [] w ∧ Has [] 136 a [(8, .bool t339)]) ?_ ?_
      ·refine rg (m1 rfl (m1 rfl (eqI rfl rfl rfl (m1 rfl ?_))))
       by_cases hb342 : r255.2.2 = 0
       ·have hr343 := if_p hb342 hx340
        refine gt hb342 rfl (m1 rfl (gt hb342 rfl (nt rfl rfl (pt hb342 rfl rfl (eqB U4 rfl rfl rfl (m1 rfl ?_))))))
        rcases Bool.eq_false_or_eq_true (e274 == !r255.2.1) with hb344 | hb344
        ·have hr345 := if_p hb344 hr343
         refine gN rfl rfl (hb344) ?_
         obtain ⟨r346, hx347, hr348⟩ := bd_some hr345
         refine clS C12 rfl rfl rfl rfl (fun w H hH le => w12 hH (hg.mono (le.at 7 rfl))  hx347) (pT rfl rfl (hb344) rfl (a1 rfl (on ?_)))
         cases hr348
         exact cu ⟨rfl, tv⟩
        ·have hr349 := if_f hb344 hr343
         refine gF rfl rfl (hb344) rfl (pF rfl rfl (hb344) rfl (a1 rfl (on ?_)))
         cases hr349
         exact cu ⟨rfl, tv⟩
       ·have hr350 := if_n hb342 hx340
        refine gf hb342 rfl (gf hb342 rfl (pf hb342 rfl rfl (eqB U4 rfl rfl rfl (m1 rfl ?_))))
        rcases Bool.eq_false_or_eq_true (e274 == false) with hb351 | hb351
        ·have hr352 := if_p hb351 hr350
         refine gN rfl rfl (hb351) ?_
         obtain ⟨r353, hx354, hr355⟩ := bd_some hr352
         refine clS C12 rfl rfl rfl rfl (fun w H hH le => w12 hH (hg.mono (le.at 7 rfl))  hx354) (pT rfl rfl (hb351) rfl (a1 rfl (on ?_)))
         cases hr355
         exact cu ⟨rfl, tv⟩
        ·have hr356 := if_f hb351 hr350
         refine gF rfl rfl (hb351) rfl (pF rfl rfl (hb351) rfl (a1 rfl (on ?_)))
         cases hr356
         exact cu ⟨rfl, tv⟩
      ·rintro a w ⟨hS, hA⟩
       refine TG.ap ?_ hS hA
       refine rt_ ?_
       cases hr341
       intro a w hS hA
       refine ret1 hA rfl rfl ?_
       exact ⟨rfl, hS.ext⟩

end T10
