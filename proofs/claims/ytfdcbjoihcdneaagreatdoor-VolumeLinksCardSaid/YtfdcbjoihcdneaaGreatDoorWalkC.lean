/-
 Walks of functions of layer 10: each call comes to what the model says. Printed by a program of ours.
-/
import Derived.Test.YtfdcbjoihcdneaaGreatDoorWalkB
set_option linter.all false
set_option maxHeartbeats 4000000
namespace T10
open Go Go.Proofs Pk
theorem w4 {M : Prop} {W : World} {H : Hp} (hH : H.le (hp W)) (hg : Gv M H) {cs_v_0 : List Value} (v_0 : Volume) (h_v_0 : (RVolume) H cs_v_0 v_0) {ad_errata : Option Addr} {cap_errata : Nat} {errata : List Erratum} (h_errata : Sl (Flat encErratum) 6 H ad_errata cap_errata errata) {cs_more : List Value} (more : Erratum) (h_more : (Flat encErratum) H cs_more more) (which : Int) (style : Int) (day : Int) {r : Bool} (hr : m4 v_0 errata more which style day = some r) : Calls Tryz.prog 4 [.agg cs_v_0.toArray, .slice ad_errata errata.length cap_errata, .agg cs_more.toArray, .int .u8 which, .int .u8 style, .int .u16 day].toArray W (RetS M W (.bool r)) := by
 have hh_v_0 := h_v_0
 obtain ⟨ad1, cap2, rfl, hl3⟩ := h_v_0
 have := hl3.len
 have := h_errata.len
 obtain rfl := h_more
 unfold m4 at hr
 refine enterG (M := M) Tryz.func4 rfl Tryz.ntmps4 rfl hH ?_
 refine sq (rg (bI (cs := [.int .i64 v_0.number, .int .i64 v_0.bound, .int .i64 v_0.height, .int .i64 v_0.width, .slice ad1 v_0.parts.length cap2]) rfl rfl rfl fun q4 K5 hK6 => (bI (cs := [.int .i64 more.number, .int .i64 more.day, .int .u8 more.kind, .int .i64 more.anchor, .string (bs more.text), .int .i64 more.new_]) rfl rfl rfl fun q7 K8 hK9 => (a1 rfl (on (sq (sq (rg (ldA G24 Z24 rfl rfl (sS 1 rfl hK6) rfl (m1 rfl ?_))))))))))
 obtain ⟨r10, hx11, hr12⟩ := bd_some hr
 refine clS C11 rfl rfl rfl rfl (fun w H hH le => w11 hH v_0 (RVolume.mono _ _ _ _ (le.at 2 rfl) hh_v_0) (h_errata.mono (Flat.mono _) (le.at 2 rfl)) hx11) (nt rfl rfl (on ?_))
 refine cb rfl (fun hc19 => ?_) (fun hc19 => ?_)
 ·replace hc19 := nbt hc19
  have hr20 := if_f hc19 hr12
  refine sq (rg ?_)
  obtain ⟨r21, hx22, hr23⟩ := bd_some hr20
  refine clS C12 rfl rfl rfl rfl (fun w H hH le => w12 hH (hg.mono (le.at 2 rfl))  hx22) (a1 rfl (on (rt_ ?_)))
  cases hr23
  intro a w hS hA
  refine ret1 hA rfl rfl ?_
  exact ⟨rfl, hS.ext⟩
 ·replace hc19 := nbf hc19
  have hr24 := if_p hc19 hr12
  refine sk (sq (rg (ldA G24 Z24 rfl rfl (sS 1 rfl hK6) rfl (m1 rfl ?_))))
  obtain ⟨r25, hx26, hr27⟩ := bd_some hr24
  refine clK C19 rfl rfl rfl rfl (fun w H hH le => w19 hH v_0 (RVolume.mono _ _ _ _ (le.at 2 rfl) hh_v_0) (h_errata.mono (Flat.mono _) (le.at 2 rfl)) 99999 hx26) ?_
  rintro v_ K28 ⟨ad29, cap30, rfl, hl31⟩
  have := hl31.len
  refine a1 rfl (on (sq (sq (rg (m1 rfl (lnL U47 rfl rfl (eqI rfl rfl rfl (on ?_))))))))
  refine ci rfl (fun hc38 => ?_) (fun hc38 => ?_)
  ·have hr39 := if_p hc38 hr27
   refine sq (rg ?_)
   obtain ⟨r40, hx41, hr42⟩ := bd_some hr39
   refine clS C12 rfl rfl rfl rfl (fun w H hH le => w12 hH (hg.mono (le.at 3 rfl))  hx41) (a1 rfl (on (rt_ ?_)))
   cases hr42
   intro a w hS hA
   refine ret1 hA rfl rfl ?_
   exact ⟨rfl, hS.ext⟩
  ·have hr43 := if_n hc38 hr27
   refine sk (sq (rg (m1 rfl (m1 rfl ?_))))
   obtain ⟨hk44, hr45⟩ := chk_some hr43
   refine cvI U5 U3 rfl rfl (wr_i64 hk44) (m1 rfl (lnL U47 rfl rfl ?_))
   obtain ⟨hk46, hr47⟩ := chk_some hr45
   have : 0 ≤ (which % (r25.length : Int)) ∧ (which % (r25.length : Int)) < (r25.length : Int) := have h := (hk46 : 0 ≤ which ∧ 0 < (r25.length : Int)); ⟨Int.emod_nonneg _ (by omega), Int.emod_lt_of_pos _ h.2⟩
   refine rmI rfl rfl rfl hk46 ?_
   obtain ⟨x48, hx49, hr50⟩ := bd_some hr47
   obtain ⟨p51, rfl⟩ := hl31.adr hx49
   obtain ⟨cs52, hcs53, hq54, hr55⟩ := hl31.at hx49
   obtain rfl := hr55
   refine iaP U47 Z52 rfl rfl rfl (by omega) (lt_of hx49) (fb 0 U52 rfl rfl rfl rfl Z50 (fb 0 U50 rfl rfl rfl rfl Z3 (ld G3 rfl rfl ((sS 0 rfl hq54).take 1) rfl (m1 rfl ?_))))
   obtain ⟨hk56, hr57⟩ := chk_some hr50
   refine rmK rfl rfl rfl hk56 (m1 rfl ?_)
   obtain ⟨hk58, hr59⟩ := chk_some hr57
   refine cvI U28 U3 rfl rfl (wr_i64 hk58) (a1 rfl (a1 rfl (a1 rfl (on (sq (rg (ldA G24 Z24 rfl rfl (sS 2 rfl hK6) rfl ?_)))))))
   obtain ⟨r60, hx61, hr62⟩ := bd_some hr59
   refine clK C14 rfl rfl rfl rfl (fun w H hH le => w14 hH v_0 (RVolume.mono _ _ _ _ (le.at 3 rfl) hh_v_0) hx61) ?_
   rintro v_ K63 ⟨cs64, rfl, hr65⟩
   have hr66 := hr65
   obtain ⟨ad67, cap68, rfl, hl69⟩ := hr65
   have := hl69.len
   refine m1 rfl ?_
   obtain ⟨r70, hx71, hr72⟩ := bd_some hr62
   refine clK C15 rfl rfl rfl rfl (fun w H hH le => w15 hH (h_errata.mono (Flat.mono _) (le.at 4 rfl)) hx71) ?_
   rintro v_ K73 ⟨ad74, cap75, rfl, hl76⟩
   have := hl76.len
   refine m1 rfl (m1 rfl (m1 rfl ?_))
   obtain ⟨r77, hx78, hr79⟩ := bd_some hr72
   refine clS C20 rfl rfl rfl rfl (fun w H hH le => w20 hH (hg.mono (le.at 5 rfl)) r60 (RVolume.mono _ _ _ _ (le.at 1 rfl) hr66) (hl76.mono (Flat.mono _) (le.at 0 rfl)) x48.paragraph.anchor (style % 3) day hx78) (m1 rfl (ex rfl rfl rfl (ex rfl rfl rfl (a1 rfl (a1 rfl (on (sq (sq (rg (m1 rfl (neI rfl rfl rfl ?_)))))))))))
   refine on ?_
   refine ci rfl (fun hc93 => ?_) (fun hc93 => ?_)
   ·have hr94 := if_p hc93 hr79
    refine sq ?_
    obtain ⟨t104, hx105, hr106⟩ := bd_some hr94
    refine jn (fun a w => St M W H [K73, K63, K28, K8, K5, H] [] w ∧ Has [] 151 a [(12, .bool t104)]) ?_ ?_
    ·refine rg (m1 rfl (eqI rfl rfl rfl (m1 rfl ?_)))
     by_cases hb107 : r77.2 = 7
     ·have hr108 := if_p hb107 hx105
      refine gt hb107 rfl (m1 rfl (gt hb107 rfl (eqS rfl rfl rfl (pt hb107 rfl rfl (m1 rfl ?_)))))
      by_cases hb109 : r77.1 = []
      ·have hr110 := if_p hb109 hr108
       refine gt hb109 rfl ?_
       obtain ⟨r111, hx112, hr113⟩ := bd_some hr110
       refine clS C12 rfl rfl rfl rfl (fun w H hH le => w12 hH (hg.mono (le.at 5 rfl))  hx112) (pt hb109 rfl rfl (a1 rfl (on ?_)))
       cases hr113
       exact cu ⟨rfl, tv⟩
      ·have hr114 := if_n hb109 hr108
       refine gf hb109 rfl (pf hb109 rfl rfl (a1 rfl (on ?_)))
       cases hr114
       exact cu ⟨rfl, tv⟩
     ·have hr115 := if_n hb107 hx105
      refine gf hb107 rfl (gf hb107 rfl (pf hb107 rfl rfl (m1 rfl (gF rfl rfl rfl rfl (pF rfl rfl rfl rfl (a1 rfl (on ?_)))))))
      cases hr115
      exact cu ⟨rfl, tv⟩
    ·rintro a w ⟨hS, hA⟩
     refine TG.ap ?_ hS hA
     refine rt_ ?_
     cases hr106
     intro a w hS hA
     refine ret1 hA rfl rfl ?_
     exact ⟨rfl, hS.ext⟩
   ·have hr116 := if_n hc93 hr79
    refine sk (sq (rg (fb 1 U24 rfl rfl rfl rfl Z3 (ld G3 rfl rfl (((sS 4 rfl hK6).drop 1).take 1) rfl (a1 rfl (on (sq (sq (rg (m1 rfl (eqI rfl rfl rfl ?_)))))))))))
    refine on ?_
    obtain ⟨t120, hx121, hr122⟩ := bd_some hr116
    refine jn (fun a w => St M W H [K73, K63, K28, K8, K5, H] [] w ∧ Has [] 151 a [(1, .slice ad_errata errata.length cap_errata), (6, .pointer (some q4)), (8, .pointer (some q7)), (14, .int .i64 x48.paragraph.anchor), (17, .string (bs r77.1)), (19, .int .i64 t120)]) ?_ ?_
    ·refine ci rfl (fun hc123 => ?_) (fun hc123 => ?_)
     ·have hr124 := if_p hc123 hx121
      refine rg (m1 rfl (a1 rfl (on ?_)))
      cases hr124
      exact cu ⟨rfl, rfl, rfl, rfl, rfl, rfl, tv⟩
     ·have hr125 := if_n hc123 hx121
      refine sk ?_
      cases hr125
      exact cu ⟨rfl, rfl, rfl, rfl, rfl, rfl, tv⟩
    ·rintro a w ⟨hS, hA⟩
     refine TG.ap ?_ hS hA
     refine sq (rg (ldA G24 Z24 rfl rfl (sS 4 rfl hK6) rfl (clK C14 rfl rfl rfl rfl (fun w H hH le => w14 hH v_0 (RVolume.mono _ _ _ _ (le.at 5 rfl) hh_v_0) hx61) ?_)))
     rintro v_ K126 ⟨cs127, rfl, hr128⟩
     have hr129 := hr128
     obtain ⟨ad130, cap131, rfl, hl132⟩ := hr128
     have := hl132.len
     refine m1 rfl (clK C15 rfl rfl rfl rfl (fun w H hH le => w15 hH (h_errata.mono (Flat.mono _) (le.at 6 rfl)) hx71) ?_)
     rintro v_ K133 ⟨ad134, cap135, rfl, hl136⟩
     have := hl136.len
     refine m1 rfl ?_
     obtain ⟨r137, hx138, hr139⟩ := bd_some hr122
     refine clS C21 rfl rfl rfl rfl (fun w H hH le => w21 hH (hg.mono (le.at 7 rfl)) r60 (RVolume.mono _ _ _ _ (le.at 1 rfl) hr129) (hl136.mono (Flat.mono _) (le.at 0 rfl)) r77.1 hx138) (m1 rfl (ex rfl rfl rfl (ex rfl rfl rfl (ex rfl rfl rfl (a1 rfl (a1 rfl (a1 rfl (on (sq (sq ?_))))))))))
     obtain ⟨t146, hx147, hr148⟩ := bd_some hr139
     refine jn (fun a w => St M W H [K133, K126, K73, K63, K28, K8, K5, H] [] w ∧ Has [] 151 a [(1, .slice ad_errata errata.length cap_errata), (6, .pointer (some q4)), (8, .pointer (some q7)), (14, .int .i64 x48.paragraph.anchor), (17, .string (bs r77.1)), (19, .int .i64 t120), (101, .bool t146)]) ?_ ?_
     ·refine rg (m1 rfl (neI rfl rfl rfl (m1 rfl ?_)))
      by_cases hb149 : r137.2.2 ≠ 0
      ·have hr150 := if_p hb149 hx147
       refine gf' hb149 rfl (gf' hb149 rfl (gf' hb149 rfl (pt hb149 rfl rfl (m1 rfl (gF rfl rfl rfl rfl (gF rfl rfl rfl rfl (gF rfl rfl rfl rfl (pT rfl rfl rfl rfl (on ?_)))))))))
       cases hr150
       exact cu ⟨rfl, rfl, rfl, rfl, rfl, rfl, rfl, tv⟩
      ·have hr151 := if_n hb149 hx147
       refine gt' hb149 rfl (m1 rfl (gt' hb149 rfl (m1 rfl (gt' hb149 rfl (neI rfl rfl rfl (pf hb149 rfl rfl (m1 rfl ?_)))))))
       by_cases hb152 : r137.1 ≠ x48.paragraph.anchor
       ·have hr153 := if_p hb152 hr151
        refine gf' hb152 rfl (gf' hb152 rfl (gf' hb152 rfl (pt hb152 rfl rfl (on ?_))))
        cases hr153
        exact cu ⟨rfl, rfl, rfl, rfl, rfl, rfl, rfl, tv⟩
       ·have hr154 := if_n hb152 hr151
        refine gt' hb152 rfl (m1 rfl (gt' hb152 rfl (m1 rfl (gt' hb152 rfl (neI rfl rfl rfl (pf hb152 rfl rfl (on ?_)))))))
        cases hr154
        exact cu ⟨rfl, rfl, rfl, rfl, rfl, rfl, rfl, tv⟩
     ·rintro a w ⟨hS, hA⟩
      refine TG.ap ?_ hS hA
      refine cb rfl (fun hc158 => ?_) (fun hc158 => ?_)
      ·have hr159 := if_p hc158 hr148
       refine sq (rg (a1 rfl (on (rt_ ?_))))
       cases hr159
       intro a w hS hA
       refine ret1 hA rfl rfl ?_
       exact ⟨rfl, hS.ext⟩
      ·have hr160 := if_f hc158 hr148
       refine sk (sq ?_)
       obtain ⟨hk162, hr163⟩ := chk_some hr160
       have := lenA ([] : List Erratum) errata
       refine drG3 5 [0, 2] [] mixed (fun _ _ _ _ _ h => h) (by kernel_rfl) (by kernel_rfl) (by kernel_rfl) rfl (by kernel_rfl) (.nil) (DC.turn (α := Nat) 0 (fun b161 => .slice (some ⟨b161, 0, none⟩) (([] : List Erratum).length) 0) (fun _ _ => True) (fun b161 => [(1, Own.list (some ⟨b161, 0, none⟩) 0 27 6 encErratum ([] : List Erratum))]) rfl (fun _ _ _ _ h => h) (by kernel_rfl) rfl rfl (fun a w K hS hA hF => TG.pa hS hA (bSL 1 encErratum ([] : List Erratum) (cs := []) T10.E25 rfl rfl rfl rfl rfl rfl fun b161 => finT (f := fun b161 => .slice (some ⟨b161, 0, none⟩) (([] : List Erratum).length) 0) (G := fun _ _ => True) (σ1 := fun b161 => [(1, Own.list (some ⟨b161, 0, none⟩) 0 27 6 encErratum ([] : List Erratum))]) b161 tv)) fun b161 => (DC.det (fun τ => τ = [(1, Own.list (some ⟨b161, 0, none⟩) 0 27 6 encErratum ([] : List Erratum))] ∨ τ = []) rfl (.inl rfl) (by kernel_rfl) ⟨.inl (.inr (rfl)), tv⟩ rfl rfl (fun τ hτ a w K hS hA hF => by rcases hτ with rfl | rfl <;> exact TG.pa hS hA (m1 rfl fin1)) (DC.turn (α := Option Addr × Nat) (none, 0) (fun q => .slice q.1 ((([] : List Erratum) ++ errata).length) q.2) (fun _ _ => True) (fun q => [(1, Own.list q.1 q.2 27 6 encErratum (([] : List Erratum) ++ errata))]) rfl (fun _ _ _ _ h => h) (by kernel_rfl) rfl rfl (fun a w K hS hA hF => TG.pa hS hA (apS 1 (enc := encErratum) (l := ([] : List Erratum)) (m := errata) T10.E25 rfl rfl rfl rfl rfl rfl h_errata 8 rfl (fun _ => rfl) (fun _ => rfl) rfl hk162 fun ad164 cap165 => finT (f := fun q => .slice q.1 ((([] : List Erratum) ++ errata).length) q.2) (G := fun _ _ => True) (σ1 := fun q => [(1, Own.list q.1 q.2 27 6 encErratum (([] : List Erratum) ++ errata))]) (_, _) tv)) ?_)))
       rintro ⟨ad164, cap165⟩
       refine DC.det (fun τ => τ = [(1, Own.list ad164 cap165 27 6 encErratum (([] : List Erratum) ++ errata))] ∨ τ = [] ∨ τ = [(1, Own.list (some ⟨b161, 0, none⟩) 0 27 6 encErratum ([] : List Erratum))]) rfl (.inl rfl) (by kernel_rfl) ⟨.inl (.inr (.inr (rfl))), .inl (.inr (.inl rfl)), tv⟩ rfl rfl (fun τ hτ a w K hS hA hF => by rcases hτ with rfl | rfl | rfl <;> exact TG.pa hS hA (ldA G27 Z27 rfl rfl (sS 6 rfl hK9) rfl fin1)) ?_
       refine DC.und (α := Option Addr × Nat) (none, 0) (fun q => .slice q.1 1 q.2) (fun (q : Option Addr × Nat) K => Sl (Flat encErratum) 6 K q.1 q.2 ([more] : List Erratum)) (fun τ => τ = [(1, Own.list ad164 cap165 27 6 encErratum (([] : List Erratum) ++ errata))] ∨ τ = [] ∨ τ = [(1, Own.list (some ⟨b161, 0, none⟩) 0 27 6 encErratum ([] : List Erratum))]) rfl (.inl rfl) (by kernel_rfl) ⟨.inl (.inr (.inr (rfl))), .inl (.inr (.inl rfl)), tv⟩ (fun _ _ _ h x => x.mono (Flat.mono _) h) (by kernel_rfl) rfl rfl (fun τ hτ a w K hS hA hF => by rcases hτ with rfl | rfl | rfl <;> exact TG.pa hS hA (bS (cs := [.int .i64 more.number, .int .i64 more.day, .int .u8 more.kind, .int .i64 more.anchor, .string (bs more.text), .int .i64 more.new_]) T10.E25 rfl rfl rfl rfl fun q166 K167 hq168 hK169 => by
         have hl170 : Sl (Flat encErratum) 6 K167 (some q166) 1 ([more] : List Erratum) := Sl.litR (css := [[.int .i64 more.number, .int .i64 more.day, .int .u8 more.kind, .int .i64 more.anchor, .string (bs more.text), .int .i64 more.new_]]) (l := ([more] : List Erratum)) ⟨⟨rfl, rfl, rfl⟩, tv⟩ hq168 hK169 rfl
         have := hl170.len
         exact finU (f := fun q => .slice q.1 1 q.2) (G := (fun (q : Option Addr × Nat) K => Sl (Flat encErratum) 6 K q.1 q.2 ([more] : List Erratum))) (_, _) (fun _ _ _ h x => x.mono (Flat.mono _) h) hl170)) ?_
       rintro ⟨ad172, cap173⟩
       refine DC.nil fun K174 hF => ?_
       obtain ⟨hu171, _, _, _⟩ := hF
       have := hu171.len
       obtain ⟨hk175, hr176⟩ := chk_some hr163
       have := lenA (([] : List Erratum) ++ errata) ([more] : List Erratum)
       refine apS 1 (enc := encErratum) (l := (([] : List Erratum) ++ errata)) (m := ([more] : List Erratum)) T10.E25 rfl rfl rfl rfl rfl rfl hu171 0 rfl (fun _ => rfl) (fun _ => rfl) rfl hk175 fun ad177 cap178 => (a1 rfl (on (sq (sq ?_))))
       obtain ⟨t188, hx189, hr190⟩ := bd_some hr176
       refine jn (fun a w => St M W H [K174, K133, K126, K73, K63, K28, K8, K5, H] [(1, Own.list ad177 cap178 27 6 encErratum ((([] : List Erratum) ++ errata) ++ ([more] : List Erratum)))] w ∧ Has [] 151 a [(6, .pointer (some q4)), (14, .int .i64 x48.paragraph.anchor), (17, .string (bs r77.1)), (19, .int .i64 t120), (23, .slice ad177 (((([] : List Erratum) ++ errata) ++ ([more] : List Erratum)).length) cap178), (124, .bool t188)]) ?_ ?_
       ·refine rg (ldA G24 Z24 rfl rfl (sS 7 rfl hK6) rfl (m1 rfl ?_))
        obtain ⟨r191, hx192, hr193⟩ := bd_some hx189
        refine clL C11 rfl rfl rfl rfl (fun w hS => w11 (Hp.le.refl (hp w)) v_0 (RVolume.mono _ _ _ _ (hS.hp 8 rfl) hh_v_0) (list_sl (H := hp w) (enc := encErratum) (size := 6) (ad := ad177) (cap := cap178) (el := 27) (l := ((([] : List Erratum) ++ errata) ++ ([more] : List Erratum))) (fun _ => rfl) (hS.get (t := 1) rfl) (fun _ _ _ ho => ho)) hx192) (nt rfl rfl (m1 rfl ?_))
        rcases Bool.eq_false_or_eq_true (r191) with hb194 | hb194
        ·have hr195 := if_p hb194 hr193
         refine gN rfl rfl (congrArg not (hb194)) (fb 1 U27 rfl rfl rfl rfl Z3 (gN rfl rfl (congrArg not (hb194)) (ld G3 rfl rfl (((sS 6 rfl hK9).drop 1).take 1) rfl (gN rfl rfl (congrArg not (hb194)) (fb 1 U24 rfl rfl rfl rfl Z3 (gN rfl rfl (congrArg not (hb194)) (ld G3 rfl rfl (((sS 7 rfl hK6).drop 1).take 1) rfl (gN rfl rfl (congrArg not (hb194)) (leI rfl rfl rfl (pF rfl rfl (congrArg not (hb194)) rfl (m1 rfl ?_)))))))))))
         by_cases hb196 : more.day ≤ v_0.bound
         ·have hr197 := if_p hb196 hr195
          refine gf' hb196 rfl (gf' hb196 rfl (gf' hb196 rfl (gf' hb196 rfl (pt hb196 rfl rfl (on ?_)))))
          cases hr197
          exact cu ⟨rfl, rfl, rfl, rfl, rfl, rfl, tv⟩
         ·have hr198 := if_n hb196 hr195
          refine gt' hb196 rfl (fb 1 U27 rfl rfl rfl rfl Z3 (gt' hb196 rfl (ld G3 rfl rfl (((sS 6 rfl hK9).drop 1).take 1) rfl (gt' hb196 rfl (m1 rfl (gt' hb196 rfl (leI rfl rfl rfl (pf hb196 rfl rfl (on ?_)))))))))
          cases hr198
          exact cu ⟨rfl, rfl, rfl, rfl, rfl, rfl, tv⟩
        ·have hr199 := if_f hb194 hr193
         refine gF rfl rfl (congrArg not (hb194)) rfl (gF rfl rfl (congrArg not (hb194)) rfl (gF rfl rfl (congrArg not (hb194)) rfl (gF rfl rfl (congrArg not (hb194)) rfl (gF rfl rfl (congrArg not (hb194)) rfl (pT rfl rfl (congrArg not (hb194)) rfl (m1 rfl (gF rfl rfl rfl rfl (gF rfl rfl rfl rfl (gF rfl rfl rfl rfl (gF rfl rfl rfl rfl (pT rfl rfl rfl rfl ?_)))))))))))
         refine on ?_
         cases hr199
         exact cu ⟨rfl, rfl, rfl, rfl, rfl, rfl, tv⟩
       ·rintro a w ⟨hS, hA⟩
        refine TG.ap ?_ hS hA
        refine cb rfl (fun hc206 => ?_) (fun hc206 => ?_)
        ·have hr207 := if_p hc206 hr190
         refine sq (rg ?_)
         obtain ⟨r208, hx209, hr210⟩ := bd_some hr207
         refine clS C12 rfl rfl rfl rfl (fun w H hH le => w12 hH (hg.mono (le.at 8 rfl))  hx209) (a1 rfl (on (rt_ ?_)))
         cases hr210
         intro a w hS hA
         refine ret1 hA rfl rfl ?_
         exact ⟨rfl, hS.ext⟩
        ·have hr211 := if_f hc206 hr190
         refine sk (sq (rg (ldA G24 Z24 rfl rfl (sS 7 rfl hK6) rfl (clK C14 rfl rfl rfl rfl (fun w H hH le => w14 hH v_0 (RVolume.mono _ _ _ _ (le.at 8 rfl) hh_v_0) hx61) ?_))))
         rintro v_ K212 ⟨cs213, rfl, hr214⟩
         have hr215 := hr214
         obtain ⟨ad216, cap217, rfl, hl218⟩ := hr214
         have := hl218.len
         refine m1 rfl (TG.still 1 rfl (fun _ => rfl) fun K219 hl220 => ?_)
         have := hl220.len
         obtain ⟨r221, hx222, hr223⟩ := bd_some hr211
         refine clK C15 rfl rfl rfl rfl (fun w H hH le => w15 hH (hl220.mono (Flat.mono _) (le.at 0 rfl)) hx222) ?_
         rintro v_ K224 ⟨ad225, cap226, rfl, hl227⟩
         have := hl227.len
         refine m1 rfl ?_
         obtain ⟨r228, hx229, hr230⟩ := bd_some hr223
         refine clS C21 rfl rfl rfl rfl (fun w H hH le => w21 hH (hg.mono (le.at 11 rfl)) r60 (RVolume.mono _ _ _ _ (le.at 2 rfl) hr215) (hl227.mono (Flat.mono _) (le.at 0 rfl)) r77.1 hx229) (m1 rfl (ex rfl rfl rfl (ex rfl rfl rfl (ex rfl rfl rfl (a1 rfl (a1 rfl (a1 rfl (on (sq ?_)))))))))
         obtain ⟨t243, hx244, hr245⟩ := bd_some hr230
         refine jn (fun a w => St M W H [K224, K219, K212, K174, K133, K126, K73, K63, K28, K8, K5, H] [] w ∧ Has [] 151 a [(12, .bool t243)]) ?_ ?_
         ·refine rg (m1 rfl (eqI rfl rfl rfl (m1 rfl ?_)))
          by_cases hb246 : r228.2.2 = 0
          ·have hr247 := if_p hb246 hx244
           refine gt hb246 rfl (m1 rfl (gt hb246 rfl (m1 rfl (gt hb246 rfl (eqI rfl rfl rfl (pt hb246 rfl rfl (m1 rfl ?_)))))))
           by_cases hb248 : r228.1 = x48.paragraph.anchor
           ·have hr249 := if_p hb248 hr247
            refine gt hb248 rfl (m1 rfl (gt hb248 rfl (m1 rfl (gt hb248 rfl (eqI rfl rfl rfl (pt hb248 rfl rfl (m1 rfl ?_)))))))
            by_cases hb250 : r228.2.1 = t120
            ·have hr251 := if_p hb250 hr249
             refine gt hb250 rfl ?_
             obtain ⟨r252, hx253, hr254⟩ := bd_some hr251
             refine clS C12 rfl rfl rfl rfl (fun w H hH le => w12 hH (hg.mono (le.at 11 rfl))  hx253) (pt hb250 rfl rfl (a1 rfl (on ?_)))
             cases hr254
             exact cu ⟨rfl, tv⟩
            ·have hr255 := if_n hb250 hr249
             refine gf hb250 rfl (pf hb250 rfl rfl (a1 rfl (on ?_)))
             cases hr255
             exact cu ⟨rfl, tv⟩
           ·have hr256 := if_n hb248 hr247
            refine gf hb248 rfl (gf hb248 rfl (gf hb248 rfl (pf hb248 rfl rfl (m1 rfl (gF rfl rfl rfl rfl (pF rfl rfl rfl rfl (a1 rfl (on ?_))))))))
            cases hr256
            exact cu ⟨rfl, tv⟩
          ·have hr257 := if_n hb246 hx244
           refine gf hb246 rfl (gf hb246 rfl (gf hb246 rfl (pf hb246 rfl rfl (m1 rfl (gF rfl rfl rfl rfl (gF rfl rfl rfl rfl (gF rfl rfl rfl rfl (pF rfl rfl rfl rfl (m1 rfl (gF rfl rfl rfl rfl (pF rfl rfl rfl rfl ?_)))))))))))
           refine a1 rfl (on ?_)
           cases hr257
           exact cu ⟨rfl, tv⟩
         ·rintro a w ⟨hS, hA⟩
          refine TG.ap ?_ hS hA
          refine rt_ ?_
          cases hr245
          intro a w hS hA
          refine ret1 hA rfl rfl ?_
          exact ⟨rfl, hS.ext⟩

end T10
