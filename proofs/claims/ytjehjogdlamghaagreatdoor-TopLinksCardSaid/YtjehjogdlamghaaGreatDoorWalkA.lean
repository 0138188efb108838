/-
 Walks of functions of a volume and an index: each call comes to what the model says. Printed by a program of ours.
-/
import Derived.Test.YtjehjogdlamghaaGreatDoorMade
set_option linter.all false
set_option maxHeartbeats 4000000
namespace T10
open Go Go.Proofs Pk
theorem w5 {M : Prop} {W : World} {H : Hp} (hH : H.le (hp W)) {cs_v_0 : List Value} (v_0 : Volume) (h_v_0 : (RVolume) H cs_v_0 v_0) {ad_errata : Option Addr} {cap_errata : Nat} {errata : List Erratum} (h_errata : Sl (Flat encErratum) 6 H ad_errata cap_errata errata) {r : Bool} (hr : m5 v_0 errata = some r) : Calls Tryz.prog 5 [.agg cs_v_0.toArray, .slice ad_errata errata.length cap_errata].toArray W (RetS M W (.bool r)) := by
 have hh_v_0 := h_v_0
 obtain ⟨ad1, cap2, rfl, hl3⟩ := h_v_0
 have := hl3.len
 have := h_errata.len
 unfold m5 at hr
 refine enterG (M := M) Tryz.func5 rfl Tryz.ntmps5 rfl hH ?_
 refine sq (rg (bI (cs := [.int .i64 v_0.number, .int .i64 v_0.bound, .int .i64 v_0.height, .int .i64 v_0.width, .slice ad1 v_0.parts.length cap2]) rfl rfl rfl fun q4 K5 hK6 => (a1 rfl (on (sq (sq (rg (a1 rfl (on ?_)))))))))
 obtain ⟨e42, hl43, hr44⟩ := bd_some hr
 refine jn (fun a w => ∃ t45, e42 = .inl t45 ∧ St M W H [K5, H] [] w ∧ Has [] 68 a [(1, .slice ad_errata errata.length cap_errata), (2, .pointer (some q4))]) ?_ ?_
 ·refine bk ?_
  refine lp hl43 (fun s46 a w => St M W H [K5, H] [] w ∧ Has [] 68 a [(1, .slice ad_errata errata.length cap_errata), (2, .pointer (some q4)), (5, .int .i64 (s46 : Int))]) ?_ ?_
  ·exact cu ⟨rfl, rfl, rfl, tv⟩
  ·rintro j s46 y49 hr47 hz48 a w ⟨hS, hA⟩
   refine TG.ap ?_ hS hA
   unfold m5_1 at hr47
   refine sq (sq (rg (m1 rfl (fb 4 U24 rfl rfl rfl rfl Z22 (ld G22 rfl rfl ((sS 0 rfl hK6).drop 4) rfl (lnL U22 rfl rfl (ltI rfl rfl rfl (on ?_))))))))
   refine ci rfl (fun hc53 => ?_) (fun hc53 => ?_)
   ·have hr54 := if_p hc53 hr47
    refine sk (sq (bk (sq (sq (rg (fb 4 U24 rfl rfl rfl rfl Z22 (ld G22 rfl rfl ((sS 0 rfl hK6).drop 4) rfl (m1 rfl ?_))))))))
    obtain ⟨x86, hx87, hr88⟩ := bd_some hr54
    obtain ⟨p89, rfl⟩ := hl3.adr hx87
    obtain ⟨cs90, hcs91, hq92, hr93⟩ := hl3.at hx87
    have hr94 := hr93
    obtain ⟨ad95, cap96, rfl, hl97⟩ := hr93
    have := hl97.len
    refine iaP U22 Z94 rfl rfl rfl rfl (lt_of hx87) (fb 1 U94 rfl rfl rfl rfl Z92 (ld G92 rfl rfl ((sS 1 rfl hq92).drop 1) rfl (lnL U92 rfl rfl (gtI rfl rfl rfl (on ?_)))))
    refine ci rfl (fun hc101 => ?_) (fun hc101 => ?_)
    ·have hr102 := if_p hc101 hr88
     refine sq (rg (a1 rfl (on (rt_ ?_))))
     cases hr102
     obtain rfl := Fin.out hz48
     cases hr44
     intro a w hS hA
     refine ret1 hA rfl rfl ?_
     exact ⟨rfl, hS.ext⟩
    ·have hr103 := if_n hc101 hr88
     refine sk (sq (rg (a1 rfl (on ?_))))
     obtain ⟨e119, hl120, hr121⟩ := bd_some hr103
     refine jn (fun a w => ∃ t122, e119 = .inl t122 ∧ St M W H [K5, H] [] w ∧ Has [] 68 a [(1, .slice ad_errata errata.length cap_errata), (2, .pointer (some q4)), (5, .int .i64 (s46 : Int))]) ?_ ?_
     ·refine bk ?_
      refine lp hl120 (fun s123 a w => St M W H [K5, H] [] w ∧ Has [] 68 a [(1, .slice ad_errata errata.length cap_errata), (2, .pointer (some q4)), (5, .int .i64 (s46 : Int)), (6, .int .i64 (s123 : Int))]) ?_ ?_
      ·exact cu ⟨rfl, rfl, rfl, rfl, tv⟩
      ·rintro j s123 y126 hr124 hz125 a w ⟨hS, hA⟩
       refine TG.ap ?_ hS hA
       unfold m5_2 at hr124
       refine sq (sq (rg (m1 rfl (fb 4 U24 rfl rfl rfl rfl Z22 (ld G22 rfl rfl ((sS 0 rfl hK6).drop 4) rfl (m1 rfl (iaP U22 Z94 rfl rfl rfl rfl (lt_of hx87) (fb 1 U94 rfl rfl rfl rfl Z92 (ld G92 rfl rfl ((sS 1 rfl hq92).drop 1) rfl (lnL U92 rfl rfl (ltI rfl rfl rfl ?_)))))))))))
       refine on ?_
       refine ci rfl (fun hc130 => ?_) (fun hc130 => ?_)
       ·have hr131 := if_p hc130 hr124
        refine sk (sq (bk (sq (rg (fb 4 U24 rfl rfl rfl rfl Z22 (ld G22 rfl rfl ((sS 0 rfl hK6).drop 4) rfl (m1 rfl (iaP U22 Z94 rfl rfl rfl rfl (lt_of hx87) (fb 1 U94 rfl rfl rfl rfl Z92 (ld G92 rfl rfl ((sS 1 rfl hq92).drop 1) rfl (m1 rfl ?_)))))))))))
        obtain ⟨x143, hx144, hr145⟩ := bd_some hr131
        obtain ⟨p146, rfl⟩ := hl97.adr hx144
        obtain ⟨cs147, hcs148, hq149, hr150⟩ := hl97.at hx144
        obtain rfl := hr150
        refine iaP U92 Z95 rfl rfl rfl rfl (lt_of hx144) (fb 1 U95 rfl rfl rfl rfl Z9 (ld G9 rfl rfl ((sS 1 rfl hq149).drop 1) rfl (lnS U9 rfl rfl (gtI rfl rfl rfl (on ?_)))))
        refine ci rfl (fun hc154 => ?_) (fun hc154 => ?_)
        ·have hr155 := if_p hc154 hr145
         refine sq (rg (a1 rfl (on (rt_ ?_))))
         cases hr155
         obtain rfl := Fin.out hz125
         cases hr121
         obtain rfl := Fin.out hz48
         cases hr44
         intro a w hS hA
         refine ret1 hA rfl rfl ?_
         exact ⟨rfl, hS.ext⟩
        ·have hr156 := if_n hc154 hr145
         refine sk (rg (m1 rfl (adI rfl rfl rfl (by omega) (a1 rfl (on ?_)))))
         cases hr156
         intro a w hS hA
         exact ⟨_, hz125, hS, hA.cut ⟨rfl, rfl, rfl, rfl, tv⟩⟩
       ·have hr157 := if_n hc130 hr124
        refine xt rfl ?_
        cases hr157
        obtain rfl := Fin.out hz125
        intro a w hS hA
        exact ⟨_, rfl, hS, hA.cut ⟨rfl, rfl, rfl, tv⟩⟩
     ·rintro a w ⟨t122, rfl, hS, hA⟩
      refine TG.ap ?_ hS hA
      refine rg (m1 rfl (adI rfl rfl rfl (by omega) (a1 rfl (on ?_))))
      cases hr121
      intro a w hS hA
      exact ⟨_, hz48, hS, hA.cut ⟨rfl, rfl, rfl, tv⟩⟩
   ·have hr158 := if_n hc53 hr47
    refine xt rfl ?_
    cases hr158
    obtain rfl := Fin.out hz48
    intro a w hS hA
    exact ⟨_, rfl, hS, hA.cut ⟨rfl, rfl, tv⟩⟩
 ·rintro a w ⟨t45, rfl, hS, hA⟩
  refine TG.ap ?_ hS hA
  refine sq (sq (rg (a1 rfl (on ?_))))
  obtain ⟨e174, hl175, hr176⟩ := bd_some hr44
  refine jn (fun a w => ∃ t177, e174 = .inl t177 ∧ St M W H [K5, H] [] w ∧ Has [] 68 a [(1, .slice ad_errata errata.length cap_errata), (2, .pointer (some q4))]) ?_ ?_
  ·refine bk ?_
   refine lp hl175 (fun s178 a w => St M W H [K5, H] [] w ∧ Has [] 68 a [(1, .slice ad_errata errata.length cap_errata), (2, .pointer (some q4)), (7, .int .i64 (s178 : Int))]) ?_ ?_
   ·exact cu ⟨rfl, rfl, rfl, tv⟩
   ·rintro j s178 y181 hr179 hz180 a w ⟨hS, hA⟩
    refine TG.ap ?_ hS hA
    unfold m5_3 at hr179
    refine sq (sq (rg (m1 rfl (m1 rfl (lnL U25 rfl rfl (ltI rfl rfl rfl (on ?_)))))))
    refine ci rfl (fun hc185 => ?_) (fun hc185 => ?_)
    ·have hr186 := if_p hc185 hr179
     refine sk (sq (bk (sq (rg (m1 rfl (m1 rfl ?_))))))
     obtain ⟨x198, hx199, hr200⟩ := bd_some hr186
     obtain ⟨p201, rfl⟩ := h_errata.adr hx199
     obtain ⟨cs202, hcs203, hq204, hr205⟩ := h_errata.at hx199
     obtain rfl := hr205
     refine iaP U25 Z97 rfl rfl rfl rfl (lt_of hx199) (fb 4 U97 rfl rfl rfl rfl Z9 (ld G9 rfl rfl (((sS 1 rfl hq204).drop 4).take 1) rfl (lnS U9 rfl rfl (gtI rfl rfl rfl (on ?_)))))
     refine ci rfl (fun hc209 => ?_) (fun hc209 => ?_)
     ·have hr210 := if_p hc209 hr200
      refine sq (rg (a1 rfl (on (rt_ ?_))))
      cases hr210
      obtain rfl := Fin.out hz180
      cases hr176
      intro a w hS hA
      refine ret1 hA rfl rfl ?_
      exact ⟨rfl, hS.ext⟩
     ·have hr211 := if_n hc209 hr200
      refine sk (rg (m1 rfl (adI rfl rfl rfl (by omega) (a1 rfl (on ?_)))))
      cases hr211
      intro a w hS hA
      exact ⟨_, hz180, hS, hA.cut ⟨rfl, rfl, rfl, tv⟩⟩
    ·have hr212 := if_n hc185 hr179
     refine xt rfl ?_
     cases hr212
     obtain rfl := Fin.out hz180
     intro a w hS hA
     exact ⟨_, rfl, hS, hA.cut ⟨rfl, rfl, tv⟩⟩
  ·rintro a w ⟨t177, rfl, hS, hA⟩
   refine TG.ap ?_ hS hA
   refine sq ?_
   obtain ⟨t216, hx217, hr218⟩ := bd_some hr176
   refine jn (fun a w => St M W H [K5, H] [] w ∧ Has [] 68 a [(4, .bool t216)]) ?_ ?_
   ·refine rg (fb 4 U24 rfl rfl rfl rfl Z22 (ld G22 rfl rfl ((sS 0 rfl hK6).drop 4) rfl (lnL U22 rfl rfl (leI rfl rfl rfl (m1 rfl ?_)))))
    by_cases hb219 : (v_0.parts.length : Int) ≤ 8
    ·have hr220 := if_p hb219 hx217
     refine gt hb219 rfl (m1 rfl (gt hb219 rfl (lnL U25 rfl rfl (gt hb219 rfl (leI rfl rfl rfl (pt hb219 rfl rfl (a1 rfl (on ?_))))))))
     cases hr220
     exact cu ⟨rfl, tv⟩
    ·have hr221 := if_n hb219 hx217
     refine gf hb219 rfl (gf hb219 rfl (gf hb219 rfl (pf hb219 rfl rfl (a1 rfl (on ?_)))))
     cases hr221
     exact cu ⟨rfl, tv⟩
   ·rintro a w ⟨hS, hA⟩
    refine TG.ap ?_ hS hA
    refine rt_ ?_
    cases hr218
    intro a w hS hA
    refine ret1 hA rfl rfl ?_
    exact ⟨rfl, hS.ext⟩

theorem w26 {M : Prop} {W : World} {H : Hp} (hH : H.le (hp W)) {cs_v_0 : List Value} (v_0 : Volume) (h_v_0 : (RVolume) H cs_v_0 v_0) {r : List Paragraph} (hr : m26 v_0 = some r) : Calls Tryz.prog 26 [.agg cs_v_0.toArray].toArray W (RetK M H W (fun v K => ∃ (ad0 : Option Addr) (cap0 : Nat), v = .slice ad0 r.length cap0 ∧ Sl (Flat encParagraph) 2 K ad0 cap0 r)) := by
 have hh_v_0 := h_v_0
 obtain ⟨ad1, cap2, rfl, hl3⟩ := h_v_0
 have := hl3.len
 unfold m26 at hr
 refine enterG (M := M) Tryz.func26 rfl Tryz.ntmps26 rfl hH ?_
 refine sq (rg (bI (cs := [.int .i64 v_0.number, .int .i64 v_0.bound, .int .i64 v_0.height, .int .i64 v_0.width, .slice ad1 v_0.parts.length cap2]) rfl rfl rfl fun q4 K5 hK6 => (a1 rfl (on (sq (rg (a1 rfl (on (sq (sq (rg ?_)))))))))))
 refine a1 rfl (on (TG.nilRow 2 95 2 (TG.as 2 (z := Own.list none 0 95 2 encParagraph ([] : List Paragraph)) rfl rfl ?_)))
 obtain ⟨e73, hl74, hr75⟩ := bd_some hr
 refine jn (fun a w => ∃ (ad76 : Option Addr) (cap77 : Nat), St M W H [K5, H] [(2, Own.list ad76 cap77 95 2 encParagraph e73)] w ∧ Has [] 21 a [(3, .slice ad76 e73.length cap77)]) ?_ ?_
 ·refine bk ?_
  refine lp hl74 (fun s78 a w => ∃ (ad79 : Option Addr) (cap80 : Nat), St M W H [K5, H] [(2, Own.list ad79 cap80 95 2 encParagraph s78.2)] w ∧ Has [] 21 a [(1, .pointer (some q4)), (3, .slice ad79 s78.2.length cap80), (4, .int .i64 (s78.1 : Int))]) ?_ ?_
  ·intro a w hS hA
   exact ⟨none, 0, hS, hA.cut ⟨rfl, rfl, rfl, tv⟩⟩
  ·rintro j s78 y83 hr81 hz82 a w ⟨ad79, cap80, hS, hA⟩
   refine TG.ap ?_ hS hA
   unfold m26_1 at hr81
   refine sq (sq (rg (m1 rfl (fb 4 U24 rfl rfl rfl rfl Z22 (ld G22 rfl rfl ((sS 0 rfl hK6).drop 4) rfl (lnL U22 rfl rfl (ltI rfl rfl rfl (on ?_))))))))
   refine ci rfl (fun hc87 => ?_) (fun hc87 => ?_)
   ·have hr88 := if_p hc87 hr81
    refine sk (sq (bk (rg (m1 rfl (fb 4 U24 rfl rfl rfl rfl Z22 (ld G22 rfl rfl ((sS 0 rfl hK6).drop 4) rfl (m1 rfl ?_)))))))
    obtain ⟨x105, hx106, hr107⟩ := bd_some hr88
    obtain ⟨p108, rfl⟩ := hl3.adr hx106
    obtain ⟨cs109, hcs110, hq111, hr112⟩ := hl3.at hx106
    have hr113 := hr112
    obtain ⟨ad114, cap115, rfl, hl116⟩ := hr112
    have := hl116.len
    refine iaP U22 Z94 rfl rfl rfl rfl (lt_of hx106) (fb 1 U94 rfl rfl rfl rfl Z92 (ld G92 rfl rfl ((sS 1 rfl hq111).drop 1) rfl ?_))
    obtain ⟨hk117, hr118⟩ := chk_some hr107
    have := lenA s78.2 x105.paragraphs
    refine apS 2 (enc := encParagraph) (l := s78.2) (m := x105.paragraphs) T10.E92 rfl rfl rfl rfl rfl rfl hl116 1 rfl (fun _ => rfl) (fun _ => rfl) rfl hk117 fun ad119 cap120 => (a1 rfl (on (rg (m1 rfl (adI rfl rfl rfl (by omega) (a1 rfl (on ?_)))))))
    cases hr118
    intro a w hS hA
    exact ⟨_, hz82, ad119, cap120, hS, hA.cut ⟨rfl, rfl, rfl, tv⟩⟩
   ·have hr121 := if_n hc87 hr81
    refine xt rfl ?_
    cases hr121
    obtain rfl := Fin.out hz82
    intro a w hS hA
    exact ⟨ad79, cap80, hS, hA.cut ⟨rfl, tv⟩⟩
 ·rintro a w ⟨ad76, cap77, hS, hA⟩
  refine TG.ap ?_ hS hA
  refine sq (rg (m1 rfl (a1 rfl (on (rt_ ?_)))))
  cases hr75
  intro a w hS hA
  refine ret1 hA rfl rfl ?_
  exact ⟨⟨_, _, rfl, (hS.listOut 2 rfl (fun _ => rfl))⟩, hS.ext⟩

theorem w27 {M : Prop} {W : World} (n_0 : Int) (low : Int) (high : Int) {r : Bool} (hr : m27 n_0 low high = some r) : Calls Tryz.prog 27 [.int .i64 n_0, .int .i64 low, .int .i64 high].toArray W (RetS M W (.bool r)) := by
 unfold m27 at hr
 refine enterG (M := M) Tryz.func27 rfl Tryz.ntmps27 rfl (Hp.le.refl _) ?_
 refine sq (rg (a1 rfl (on (sq ?_))))
 obtain ⟨t4, hx5, hr6⟩ := bd_some hr
 refine jn (fun a w => St M W (hp W) [(hp W)] [] w ∧ Has [] 15 a [(6, .bool t4)]) ?_ ?_
 ·refine rg (m1 rfl (m1 rfl (geI rfl rfl rfl (m1 rfl ?_))))
  by_cases hb7 : low ≤ n_0
  ·have hr8 := if_p hb7 hx5
   refine gt hb7 rfl (m1 rfl (gt hb7 rfl (m1 rfl (gt hb7 rfl (leI rfl rfl rfl (pt hb7 rfl rfl (a1 rfl (on ?_))))))))
   cases hr8
   exact cu ⟨rfl, tv⟩
  ·have hr9 := if_n hb7 hx5
   refine gf hb7 rfl (gf hb7 rfl (gf hb7 rfl (pf hb7 rfl rfl (a1 rfl (on ?_)))))
   cases hr9
   exact cu ⟨rfl, tv⟩
 ·rintro a w ⟨hS, hA⟩
  refine TG.ap ?_ hS hA
  refine rt_ ?_
  cases hr6
  intro a w hS hA
  refine ret1 hA rfl rfl ?_
  exact ⟨rfl, hS.ext⟩

theorem w28 {M : Prop} {W : World} (s_0 : Bytes) {r : Bool} (hr : m28 s_0 = some r) : Calls Tryz.prog 28 [.string (bs s_0)].toArray W (RetS M W (.bool r)) := by
 unfold m28 at hr
 refine enterG (M := M) Tryz.func28 rfl Tryz.ntmps28 rfl (Hp.le.refl _) ?_
 refine sq (rg (a1 rfl (on (sq (sq (rg (a1 rfl (on ?_))))))))
 obtain ⟨e17, hl18, hr19⟩ := bd_some hr
 refine jn (fun a w => ∃ t20, e17 = .inl t20 ∧ St M W (hp W) [(hp W)] [] w ∧ Has [] 23 a [(0, .string (bs s_0))]) ?_ ?_
 ·refine bk ?_
  refine lp hl18 (fun s21 a w => St M W (hp W) [(hp W)] [] w ∧ Has [] 23 a [(0, .string (bs s_0)), (3, .int .i64 (s21 : Int))]) ?_ ?_
  ·exact cu ⟨rfl, rfl, tv⟩
  ·rintro j s21 y24 hr22 hz23 a w ⟨hS, hA⟩
   refine TG.ap ?_ hS hA
   unfold m28_1 at hr22
   refine sq (sq (rg (m1 rfl (m1 rfl (lnS U9 rfl rfl (ltI rfl rfl rfl (on ?_)))))))
   refine ci rfl (fun hc28 => ?_) (fun hc28 => ?_)
   ·have hr29 := if_p hc28 hr22
    refine sk (sq (bk (sq ?_)))
    obtain ⟨t46, hx47, hr48⟩ := bd_some hr29
    refine jn (fun a w => St M W (hp W) [(hp W)] [] w ∧ Has [] 23 a [(0, .string (bs s_0)), (3, .int .i64 (s21 : Int)), (19, .bool t46)]) ?_ ?_
    ·refine rg (m1 rfl (m1 rfl ?_))
     obtain ⟨x49, hx50, hr51⟩ := bd_some hx47
     have := UInt8.toNat_lt x49
     refine ixS U9 rfl rfl rfl rfl hx50 (ltI rfl rfl rfl (m1 rfl ?_))
     by_cases hb52 : (x49.toNat : Int) < 32
     ·have hr53 := if_p hb52 hr51
      refine gf' hb52 rfl (gf' hb52 rfl (gf' hb52 rfl (gf' hb52 rfl (pt hb52 rfl rfl (on ?_)))))
      cases hr53
      exact cu ⟨rfl, rfl, rfl, tv⟩
     ·have hr54 := if_n hb52 hr51
      refine gt' hb52 rfl (m1 rfl (gt' hb52 rfl (m1 rfl (gt' hb52 rfl (ixS U9 rfl rfl rfl rfl hx50 (gt' hb52 rfl (gtI rfl rfl rfl (pf hb52 rfl rfl (on ?_)))))))))
      cases hr54
      exact cu ⟨rfl, rfl, rfl, tv⟩
    ·rintro a w ⟨hS, hA⟩
     refine TG.ap ?_ hS hA
     refine cb rfl (fun hc58 => ?_) (fun hc58 => ?_)
     ·have hr59 := if_p hc58 hr48
      refine sq (rg (a1 rfl (on (rt_ ?_))))
      cases hr59
      obtain rfl := Fin.out hz23
      cases hr19
      intro a w hS hA
      refine ret1 hA rfl rfl ?_
      exact ⟨rfl, hS.ext⟩
     ·have hr60 := if_f hc58 hr48
      refine sk (rg (m1 rfl ?_))
      obtain ⟨hk61, hr62⟩ := chk_some hr60
      refine adI rfl rfl rfl hk61 (a1 rfl (on ?_))
      cases hr62
      intro a w hS hA
      exact ⟨_, hz23, hS, hA.cut ⟨rfl, rfl, tv⟩⟩
   ·have hr63 := if_n hc28 hr22
    refine xt rfl ?_
    cases hr63
    obtain rfl := Fin.out hz23
    intro a w hS hA
    exact ⟨_, rfl, hS, hA.cut ⟨rfl, tv⟩⟩
 ·rintro a w ⟨t20, rfl, hS, hA⟩
  refine TG.ap ?_ hS hA
  refine sq (rg (m1 rfl (lnS U9 rfl rfl ?_)))
  obtain ⟨r64, hx65, hr66⟩ := bd_some hr19
  refine clS C27 rfl rfl rfl rfl (fun w H hH le => w27 (s_0.length : Int) 1 200 hx65) (a1 rfl (on (rt_ ?_)))
  cases hr66
  intro a w hS hA
  refine ret1 hA rfl rfl ?_
  exact ⟨rfl, hS.ext⟩

theorem w6 {M : Prop} {W : World} {H : Hp} (hH : H.le (hp W)) {cs_v_0 : List Value} (v_0 : Volume) (h_v_0 : (RVolume) H cs_v_0 v_0) {r : Int} (hr : m6 v_0 = some r) : Calls Tryz.prog 6 [.agg cs_v_0.toArray].toArray W (RetS M W (.int .i64 r)) := by
 have hh_v_0 := h_v_0
 obtain ⟨ad1, cap2, rfl, hl3⟩ := h_v_0
 have := hl3.len
 unfold m6 at hr
 refine enterG (M := M) Tryz.func6 rfl Tryz.ntmps6 rfl hH ?_
 refine sq (rg (bI (cs := [.int .i64 v_0.number, .int .i64 v_0.bound, .int .i64 v_0.height, .int .i64 v_0.width, .slice ad1 v_0.parts.length cap2]) rfl rfl rfl fun q4 K5 hK6 => (a1 rfl (on (sq (rg (ldA G24 Z24 rfl rfl (sS 0 rfl hK6) rfl ?_)))))))
 obtain ⟨r7, hx8, hr9⟩ := bd_some hr
 refine clK C26 rfl rfl rfl rfl (fun w H hH le => w26 hH v_0 (RVolume.mono _ _ _ _ (le.at 1 rfl) hh_v_0) hx8) ?_
 rintro v_ K10 ⟨ad11, cap12, rfl, hl13⟩
 have := hl13.len
 refine a1 rfl (on (sq (sq ?_)))
 obtain ⟨t17, hx18, hr19⟩ := bd_some hr9
 refine jn (fun a w => St M W H [K10, K5, H] [] w ∧ Has [] 122 a [(1, .pointer (some q4)), (3, .slice ad11 r7.length cap12), (18, .bool t17)]) ?_ ?_
 ·refine rg (fb 4 U24 rfl rfl rfl rfl Z22 (ld G22 rfl rfl ((sS 1 rfl hK6).drop 4) rfl (lnL U22 rfl rfl (gtI rfl rfl rfl (m1 rfl ?_)))))
  by_cases hb20 : 6 < (v_0.parts.length : Int)
  ·have hr21 := if_p hb20 hx18
   refine gf' hb20 rfl (gf' hb20 rfl (gf' hb20 rfl (pt hb20 rfl rfl (on ?_))))
   cases hr21
   exact cu ⟨rfl, rfl, rfl, tv⟩
  ·have hr22 := if_n hb20 hx18
   refine gt' hb20 rfl (m1 rfl (gt' hb20 rfl (lnL U92 rfl rfl (gt' hb20 rfl (gtI rfl rfl rfl (pf hb20 rfl rfl (on ?_)))))))
   cases hr22
   exact cu ⟨rfl, rfl, rfl, tv⟩
 ·rintro a w ⟨hS, hA⟩
  refine TG.ap ?_ hS hA
  refine cb rfl (fun hc26 => ?_) (fun hc26 => ?_)
  ·have hr27 := if_p hc26 hr19
   refine sq (rg (a1 rfl (on (rt_ ?_))))
   cases hr27
   intro a w hS hA
   refine ret1 hA rfl rfl ?_
   exact ⟨rfl, hS.ext⟩
  ·have hr28 := if_f hc26 hr19
   refine sk (sq (sq ?_))
   obtain ⟨t50, hx51, hr52⟩ := bd_some hr28
   refine jn (fun a w => St M W H [K10, K5, H] [] w ∧ Has [] 122 a [(1, .pointer (some q4)), (3, .slice ad11 r7.length cap12), (40, .bool t50)]) ?_ ?_
   ·refine rg (fb 0 U24 rfl rfl rfl rfl Z3 (ld G3 rfl rfl ((sS 1 rfl hK6).take 1) rfl ?_))
    obtain ⟨r53, hx54, hr55⟩ := bd_some hx51
    refine clS C27 rfl rfl rfl rfl (fun w H hH le => w27 v_0.number 1 99 hx54) (nt rfl rfl (m1 rfl ?_))
    rcases Bool.eq_false_or_eq_true (r53) with hb56 | hb56
    ·have hr57 := if_p hb56 hr55
     refine gN rfl rfl (congrArg not (hb56)) (fb 1 U24 rfl rfl rfl rfl Z3 (gN rfl rfl (congrArg not (hb56)) (ld G3 rfl rfl (((sS 1 rfl hK6).drop 1).take 1) rfl (gN rfl rfl (congrArg not (hb56)) ?_))))
     obtain ⟨r58, hx59, hr60⟩ := bd_some hr57
     refine clS C27 rfl rfl rfl rfl (fun w H hH le => w27 v_0.bound 0 99999 hx59) (gN rfl rfl (congrArg not (hb56)) (nt rfl rfl (pF rfl rfl (congrArg not (hb56)) rfl (m1 rfl ?_))))
     rcases Bool.eq_false_or_eq_true (r58) with hb61 | hb61
     ·have hr62 := if_p hb61 hr60
      refine gN rfl rfl (congrArg not (hb61)) (fb 2 U24 rfl rfl rfl rfl Z3 (gN rfl rfl (congrArg not (hb61)) (ld G3 rfl rfl (((sS 1 rfl hK6).drop 2).take 1) rfl (gN rfl rfl (congrArg not (hb61)) ?_))))
      obtain ⟨r63, hx64, hr65⟩ := bd_some hr62
      refine clS C27 rfl rfl rfl rfl (fun w H hH le => w27 v_0.height 1 60 hx64) (gN rfl rfl (congrArg not (hb61)) (nt rfl rfl (pF rfl rfl (congrArg not (hb61)) rfl (m1 rfl ?_))))
      rcases Bool.eq_false_or_eq_true (r63) with hb66 | hb66
      ·have hr67 := if_p hb66 hr65
       refine gN rfl rfl (congrArg not (hb66)) (fb 3 U24 rfl rfl rfl rfl Z3 (gN rfl rfl (congrArg not (hb66)) (ld G3 rfl rfl (((sS 1 rfl hK6).drop 3).take 1) rfl (gN rfl rfl (congrArg not (hb66)) ?_))))
       obtain ⟨r68, hx69, hr70⟩ := bd_some hr67
       refine clS C27 rfl rfl rfl rfl (fun w H hH le => w27 v_0.width 10 80 hx69) (gN rfl rfl (congrArg not (hb66)) (nt rfl rfl (pF rfl rfl (congrArg not (hb66)) rfl (on ?_))))
       cases hr70
       exact cu ⟨rfl, rfl, rfl, tv⟩
      ·have hr71 := if_f hb66 hr65
       refine gF rfl rfl (congrArg not (hb66)) rfl (gF rfl rfl (congrArg not (hb66)) rfl (gF rfl rfl (congrArg not (hb66)) rfl (gF rfl rfl (congrArg not (hb66)) rfl (pT rfl rfl (congrArg not (hb66)) rfl (on ?_)))))
       cases hr71
       exact cu ⟨rfl, rfl, rfl, tv⟩
     ·have hr72 := if_f hb61 hr60
      refine gF rfl rfl (congrArg not (hb61)) rfl (gF rfl rfl (congrArg not (hb61)) rfl (gF rfl rfl (congrArg not (hb61)) rfl (gF rfl rfl (congrArg not (hb61)) rfl (pT rfl rfl (congrArg not (hb61)) rfl (m1 rfl (gF rfl rfl rfl rfl (gF rfl rfl rfl rfl (gF rfl rfl rfl rfl (gF rfl rfl rfl rfl (pT rfl rfl rfl rfl (on ?_)))))))))))
      cases hr72
      exact cu ⟨rfl, rfl, rfl, tv⟩
    ·have hr73 := if_f hb56 hr55
     refine gF rfl rfl (congrArg not (hb56)) rfl (gF rfl rfl (congrArg not (hb56)) rfl (gF rfl rfl (congrArg not (hb56)) rfl (gF rfl rfl (congrArg not (hb56)) rfl (pT rfl rfl (congrArg not (hb56)) rfl (m1 rfl (gF rfl rfl rfl rfl (gF rfl rfl rfl rfl (gF rfl rfl rfl rfl (gF rfl rfl rfl rfl (pT rfl rfl rfl rfl (m1 rfl ?_)))))))))))
     refine gF rfl rfl rfl rfl (gF rfl rfl rfl rfl (gF rfl rfl rfl rfl (gF rfl rfl rfl rfl (pT rfl rfl rfl rfl (on ?_)))))
     cases hr73
     exact cu ⟨rfl, rfl, rfl, tv⟩
   ·rintro a w ⟨hS, hA⟩
    refine TG.ap ?_ hS hA
    refine cb rfl (fun hc77 => ?_) (fun hc77 => ?_)
    ·have hr78 := if_p hc77 hr52
     refine sq (rg (a1 rfl (on (rt_ ?_))))
     cases hr78
     intro a w hS hA
     refine ret1 hA rfl rfl ?_
     exact ⟨rfl, hS.ext⟩
    ·have hr79 := if_f hc77 hr52
     refine sk (sq (sq (rg (a1 rfl (on ?_)))))
     obtain ⟨e123, hl124, hr125⟩ := bd_some hr79
     refine jn (fun a w => ∃ t126, e123 = .inl t126 ∧ St M W H [K10, K5, H] [] w ∧ Has [] 122 a [(3, .slice ad11 r7.length cap12)]) ?_ ?_
     ·refine bk ?_
      refine lp hl124 (fun s127 a w => St M W H [K10, K5, H] [] w ∧ Has [] 122 a [(1, .pointer (some q4)), (3, .slice ad11 r7.length cap12), (4, .int .i64 (s127 : Int))]) ?_ ?_
      ·exact cu ⟨rfl, rfl, rfl, tv⟩
      ·rintro j s127 y130 hr128 hz129 a w ⟨hS, hA⟩
       refine TG.ap ?_ hS hA
       unfold m6_1 at hr128
       refine sq (sq (rg (m1 rfl (fb 4 U24 rfl rfl rfl rfl Z22 (ld G22 rfl rfl ((sS 1 rfl hK6).drop 4) rfl (lnL U22 rfl rfl (ltI rfl rfl rfl (on ?_))))))))
       refine ci rfl (fun hc134 => ?_) (fun hc134 => ?_)
       ·have hr135 := if_p hc134 hr128
        refine sk (sq (bk (sq ?_)))
        obtain ⟨t210, hx211, hr212⟩ := bd_some hr135
        refine jn (fun a w => St M W H [K10, K5, H] [] w ∧ Has [] 122 a [(1, .pointer (some q4)), (3, .slice ad11 r7.length cap12), (4, .int .i64 (s127 : Int)), (77, .bool t210)]) ?_ ?_
        ·obtain ⟨x213, hx214, hr215⟩ := bd_some hx211
         obtain ⟨p216, rfl⟩ := hl3.adr hx214
         obtain ⟨cs217, hcs218, hq219, hr220⟩ := hl3.at hx214
         have hr221 := hr220
         obtain ⟨ad222, cap223, rfl, hl224⟩ := hr220
         have := hl224.len
         obtain ⟨r225, hx226, hr227⟩ := bd_some hr215
         rcases Bool.eq_false_or_eq_true (r225) with hb228 | hb228
         ·have hr229 := if_p hb228 hr227
          by_cases hb230 : 0 < (s127 : Int)
          ·have hr231 := if_p hb230 hr229
           obtain ⟨x232, hx233, hr234⟩ := bd_some hr231
           obtain ⟨cs235, hcs236, hq237, hr238⟩ := hl3.at hx233
           have hr239 := hr238
           obtain ⟨ad240, cap241, rfl, hl242⟩ := hr238
           have := hl242.len
           refine drG 27 mixed (by kernel_rfl) rfl (dt rfl (fb 4 U24 rfl rfl rfl rfl Z22 fin1) (dt rfl (ld G22 rfl rfl ((sS 2 rfl hK6).drop 4) rfl fin1) (dt rfl (m1 rfl fin1) (dt rfl (iaP U22 Z94 rfl rfl rfl rfl (lt_of hx214) fin1) (dt rfl (fb 0 U94 rfl rfl rfl rfl Z3 fin1) (dt rfl (ld G3 rfl rfl ((sS 3 rfl hq219).take 1) rfl fin1) (dt rfl (fb 1 U24 rfl rfl rfl rfl Z3 fin1) (dt rfl (ld G3 rfl rfl (((sS 2 rfl hK6).drop 1).take 1) rfl fin1) (dt rfl (clS C27 rfl rfl rfl rfl (fun w H hH le => w27 x213.day 0 v_0.bound hx226) fin1) (dt rfl (nt rfl rfl fin1) (dt rfl (m1 rfl fin1) ?_)))))))))))
           refine dt rfl (gN rfl rfl (congrArg not (hb228)) (m1 rfl fin1)) (dt rfl (gN rfl rfl (congrArg not (hb228)) (gtI rfl rfl rfl fin1)) (dt rfl (gN rfl rfl (congrArg not (hb228)) (m1 rfl fin1)) (dt rfl (gt hb230 rfl (fb 4 U24 rfl rfl rfl rfl Z22 fin1)) (dt rfl (gt hb230 rfl (ld G22 rfl rfl ((sS 2 rfl hK6).drop 4) rfl fin1)) (dt rfl (gt hb230 rfl (m1 rfl fin1)) (dt rfl (gt hb230 rfl (iaP U22 Z94 rfl rfl rfl rfl (lt_of hx214) fin1)) (dt rfl (gt hb230 rfl (fb 0 U94 rfl rfl rfl rfl Z3 fin1)) (dt rfl (gt hb230 rfl (ld G3 rfl rfl ((sS 3 rfl hq219).take 1) rfl fin1)) (dt rfl (gt hb230 rfl (fb 4 U24 rfl rfl rfl rfl Z22 fin1)) (dt rfl (gt hb230 rfl (ld G22 rfl rfl ((sS 2 rfl hK6).drop 4) rfl fin1)) (dt rfl (gt hb230 rfl (m1 rfl fin1)) ?_)))))))))))
           refine dt rfl (gt hb230 rfl (sbI rfl rfl rfl (by omega) fin1)) (dt rfl (gt hb230 rfl (iaP U22 Z94 rfl rfl rfl (by omega) (lt_of hx233) fin1)) (dt rfl (gt hb230 rfl (fb 0 U94 rfl rfl rfl rfl Z3 fin1)) (dt rfl (gt hb230 rfl (ld G3 rfl rfl ((sS 3 rfl hq237).take 1) rfl fin1)) (DF.nil fun K243 hF => (gt hb230 rfl (leI rfl rfl rfl (gN rfl rfl (congrArg not (hb228)) (pt hb230 rfl rfl (pF rfl rfl (congrArg not (hb228)) rfl (on ?_))))))))))
           cases hr234
           intro a w hS hA
           exact ⟨hS.selH [1, 2, 3] rfl, hA.cut ⟨rfl, rfl, rfl, rfl, tv⟩⟩
          ·have hr244 := if_n hb230 hr229
           refine drG 27 mixed (by kernel_rfl) rfl (dt rfl (fb 4 U24 rfl rfl rfl rfl Z22 fin1) (dt rfl (ld G22 rfl rfl ((sS 2 rfl hK6).drop 4) rfl fin1) (dt rfl (m1 rfl fin1) (dt rfl (iaP U22 Z94 rfl rfl rfl rfl (lt_of hx214) fin1) (dt rfl (fb 0 U94 rfl rfl rfl rfl Z3 fin1) (dt rfl (ld G3 rfl rfl ((sS 3 rfl hq219).take 1) rfl fin1) (dt rfl (fb 1 U24 rfl rfl rfl rfl Z3 fin1) (dt rfl (ld G3 rfl rfl (((sS 2 rfl hK6).drop 1).take 1) rfl fin1) (dt rfl (clS C27 rfl rfl rfl rfl (fun w H hH le => w27 x213.day 0 v_0.bound hx226) fin1) (dt rfl (nt rfl rfl fin1) (dt rfl (m1 rfl fin1) ?_)))))))))))
           refine dt rfl (gN rfl rfl (congrArg not (hb228)) (m1 rfl fin1)) (dt rfl (gN rfl rfl (congrArg not (hb228)) (gtI rfl rfl rfl fin1)) (dt rfl (gN rfl rfl (congrArg not (hb228)) (m1 rfl fin1)) (dt rfl (gf hb230 rfl fin1) (dt rfl (gf hb230 rfl fin1) (dt rfl (gf hb230 rfl fin1) (dt rfl (gf hb230 rfl fin1) (dt rfl (gf hb230 rfl fin1) (dt rfl (gf hb230 rfl fin1) (dt rfl (gf hb230 rfl fin1) (dt rfl (gf hb230 rfl fin1) (dt rfl (gf hb230 rfl fin1) ?_)))))))))))
           refine dt rfl (gf hb230 rfl fin1) (dt rfl (gf hb230 rfl fin1) (dt rfl (gf hb230 rfl fin1) (dt rfl (gf hb230 rfl fin1) (DF.nil fun K245 hF => (gf hb230 rfl (gN rfl rfl (congrArg not (hb228)) (pf hb230 rfl rfl (pF rfl rfl (congrArg not (hb228)) rfl (on ?_)))))))))
           cases hr244
           intro a w hS hA
           exact ⟨hS.selH [1, 2, 3] rfl, hA.cut ⟨rfl, rfl, rfl, rfl, tv⟩⟩
         ·have hr246 := if_f hb228 hr227
          refine drG 27 mixed (by kernel_rfl) rfl (dt rfl (fb 4 U24 rfl rfl rfl rfl Z22 fin1) (dt rfl (ld G22 rfl rfl ((sS 2 rfl hK6).drop 4) rfl fin1) (dt rfl (m1 rfl fin1) (dt rfl (iaP U22 Z94 rfl rfl rfl rfl (lt_of hx214) fin1) (dt rfl (fb 0 U94 rfl rfl rfl rfl Z3 fin1) (dt rfl (ld G3 rfl rfl ((sS 3 rfl hq219).take 1) rfl fin1) (dt rfl (fb 1 U24 rfl rfl rfl rfl Z3 fin1) (dt rfl (ld G3 rfl rfl (((sS 2 rfl hK6).drop 1).take 1) rfl fin1) (dt rfl (clS C27 rfl rfl rfl rfl (fun w H hH le => w27 x213.day 0 v_0.bound hx226) fin1) (dt rfl (nt rfl rfl fin1) (dt rfl (m1 rfl fin1) ?_)))))))))))
          refine dt rfl (gF rfl rfl (congrArg not (hb228)) rfl fin1) (dt rfl (gF rfl rfl (congrArg not (hb228)) rfl fin1) (dt rfl (gF rfl rfl (congrArg not (hb228)) rfl fin1) (dt rfl (gU rfl rfl rfl fin1) (dt rfl (gU rfl rfl rfl fin1) (dt rfl (gU rfl rfl rfl fin1) (dt rfl (gU rfl rfl rfl fin1) (dt rfl (gU rfl rfl rfl fin1) (dt rfl (gU rfl rfl rfl fin1) (dt rfl (gU rfl rfl rfl fin1) (dt rfl (gU rfl rfl rfl fin1) (dt rfl (gU rfl rfl rfl fin1) ?_)))))))))))
          refine dt rfl (gU rfl rfl rfl fin1) (dt rfl (gU rfl rfl rfl fin1) (dt rfl (gU rfl rfl rfl fin1) (dt rfl (gU rfl rfl rfl fin1) (DF.nil fun K247 hF => (gU rfl rfl rfl (gF rfl rfl (congrArg not (hb228)) rfl (pT rfl rfl (congrArg not (hb228)) rfl (on ?_))))))))
          cases hr246
          intro a w hS hA
          exact ⟨hS.selH [1, 2, 3] rfl, hA.cut ⟨rfl, rfl, rfl, rfl, tv⟩⟩
        ·rintro a w ⟨hS, hA⟩
         refine TG.ap ?_ hS hA
         refine cb rfl (fun hc251 => ?_) (fun hc251 => ?_)
         ·have hr252 := if_p hc251 hr212
          refine sq (rg (a1 rfl (on (rt_ ?_))))
          cases hr252
          obtain rfl := Fin.out hz129
          cases hr125
          intro a w hS hA
          refine ret1 hA rfl rfl ?_
          exact ⟨rfl, hS.ext⟩
         ·have hr253 := if_f hc251 hr212
          refine sk (rg (m1 rfl (adI rfl rfl rfl (by omega) (a1 rfl (on ?_)))))
          cases hr253
          intro a w hS hA
          exact ⟨_, hz129, hS, hA.cut ⟨rfl, rfl, rfl, tv⟩⟩
       ·have hr254 := if_n hc134 hr128
        refine xt rfl ?_
        cases hr254
        obtain rfl := Fin.out hz129
        intro a w hS hA
        exact ⟨_, rfl, hS, hA.cut ⟨rfl, tv⟩⟩
     ·rintro a w ⟨t126, rfl, hS, hA⟩
      refine TG.ap ?_ hS hA
      refine sq (sq (rg (a1 rfl (on ?_))))
      obtain ⟨e280, hl281, hr282⟩ := bd_some hr125
      refine jn (fun a w => ∃ t283, e280 = .inl t283 ∧ St M W H [K10, K5, H] [] w ∧ Has [] 122 a [(3, .slice ad11 r7.length cap12)]) ?_ ?_
      ·refine bk ?_
       refine lp hl281 (fun s284 a w => St M W H [K10, K5, H] [] w ∧ Has [] 122 a [(3, .slice ad11 r7.length cap12), (5, .int .i64 (s284 : Int))]) ?_ ?_
       ·exact cu ⟨rfl, rfl, tv⟩
       ·rintro j s284 y287 hr285 hz286 a w ⟨hS, hA⟩
        refine TG.ap ?_ hS hA
        unfold m6_2 at hr285
        refine sq (sq (rg (m1 rfl (m1 rfl (lnL U92 rfl rfl (ltI rfl rfl rfl (on ?_)))))))
        refine ci rfl (fun hc291 => ?_) (fun hc291 => ?_)
        ·have hr292 := if_p hc291 hr285
         refine sk (sq (bk (sq ?_)))
         obtain ⟨t331, hx332, hr333⟩ := bd_some hr292
         refine jn (fun a w => St M W H [K10, K5, H] [] w ∧ Has [] 122 a [(3, .slice ad11 r7.length cap12), (5, .int .i64 (s284 : Int)), (99, .bool t331)]) ?_ ?_
         ·refine rg (m1 rfl (m1 rfl ?_))
          obtain ⟨x334, hx335, hr336⟩ := bd_some hx332
          obtain ⟨p337, rfl⟩ := hl13.adr hx335
          obtain ⟨cs338, hcs339, hq340, hr341⟩ := hl13.at hx335
          obtain rfl := hr341
          refine iaP U92 Z95 rfl rfl rfl rfl (lt_of hx335) (fb 0 U95 rfl rfl rfl rfl Z3 (ld G3 rfl rfl ((sS 0 rfl hq340).take 1) rfl ?_))
          obtain ⟨r342, hx343, hr344⟩ := bd_some hr336
          refine clS C27 rfl rfl rfl rfl (fun w H hH le => w27 x334.anchor 1 999 hx343) (nt rfl rfl (m1 rfl ?_))
          rcases Bool.eq_false_or_eq_true (r342) with hb345 | hb345
          ·have hr346 := if_p hb345 hr344
           refine gN rfl rfl (congrArg not (hb345)) (m1 rfl (gN rfl rfl (congrArg not (hb345)) (m1 rfl (gN rfl rfl (congrArg not (hb345)) (iaP U92 Z95 rfl rfl rfl rfl (lt_of hx335) (gN rfl rfl (congrArg not (hb345)) (fb 1 U95 rfl rfl rfl rfl Z9 (gN rfl rfl (congrArg not (hb345)) (ld G9 rfl rfl ((sS 0 rfl hq340).drop 1) rfl (gN rfl rfl (congrArg not (hb345)) ?_))))))))))
           obtain ⟨r347, hx348, hr349⟩ := bd_some hr346
           refine clS C28 rfl rfl rfl rfl (fun w H hH le => w28 x334.text hx348) (gN rfl rfl (congrArg not (hb345)) (nt rfl rfl (pF rfl rfl (congrArg not (hb345)) rfl (on ?_))))
           cases hr349
           exact cu ⟨rfl, rfl, rfl, tv⟩
          ·have hr350 := if_f hb345 hr344
           refine gF rfl rfl (congrArg not (hb345)) rfl (gF rfl rfl (congrArg not (hb345)) rfl (gF rfl rfl (congrArg not (hb345)) rfl (gF rfl rfl (congrArg not (hb345)) rfl (gF rfl rfl (congrArg not (hb345)) rfl (gF rfl rfl (congrArg not (hb345)) rfl (gF rfl rfl (congrArg not (hb345)) rfl (pT rfl rfl (congrArg not (hb345)) rfl (on ?_))))))))
           cases hr350
           exact cu ⟨rfl, rfl, rfl, tv⟩
         ·rintro a w ⟨hS, hA⟩
          refine TG.ap ?_ hS hA
          refine cb rfl (fun hc354 => ?_) (fun hc354 => ?_)
          ·have hr355 := if_p hc354 hr333
           refine sq (rg (a1 rfl (on (rt_ ?_))))
           cases hr355
           obtain rfl := Fin.out hz286
           cases hr282
           intro a w hS hA
           refine ret1 hA rfl rfl ?_
           exact ⟨rfl, hS.ext⟩
          ·have hr356 := if_f hc354 hr333
           refine sk (rg (m1 rfl (adI rfl rfl rfl (by omega) (a1 rfl (on ?_)))))
           cases hr356
           intro a w hS hA
           exact ⟨_, hz286, hS, hA.cut ⟨rfl, rfl, tv⟩⟩
        ·have hr357 := if_n hc291 hr285
         refine xt rfl ?_
         cases hr357
         obtain rfl := Fin.out hz286
         intro a w hS hA
         exact ⟨_, rfl, hS, hA.cut ⟨rfl, tv⟩⟩
      ·rintro a w ⟨t283, rfl, hS, hA⟩
       refine TG.ap ?_ hS hA
       refine sq (sq (rg (a1 rfl (on ?_))))
       obtain ⟨e388, hl389, hr390⟩ := bd_some hr282
       refine jn (fun a w => ∃ t391, e388 = .inl t391 ∧ St M W H [K10, K5, H] [] w ∧ Has [] 122 a []) ?_ ?_
       ·refine bk ?_
        refine lp hl389 (fun s392 a w => St M W H [K10, K5, H] [] w ∧ Has [] 122 a [(3, .slice ad11 r7.length cap12), (6, .int .i64 (s392 : Int))]) ?_ ?_
        ·exact cu ⟨rfl, rfl, tv⟩
        ·rintro j s392 y395 hr393 hz394 a w ⟨hS, hA⟩
         refine TG.ap ?_ hS hA
         unfold m6_3 at hr393
         refine sq (sq (rg (m1 rfl (m1 rfl (lnL U92 rfl rfl (ltI rfl rfl rfl (on ?_)))))))
         refine ci rfl (fun hc399 => ?_) (fun hc399 => ?_)
         ·have hr400 := if_p hc399 hr393
          refine sk (sq (bk (sq (rg (a1 rfl (on ?_))))))
          obtain ⟨e452, hl453, hr454⟩ := bd_some hr400
          refine jn (fun a w => ∃ t455, e452 = .inl t455 ∧ St M W H [K10, K5, H] [] w ∧ Has [] 122 a [(3, .slice ad11 r7.length cap12), (6, .int .i64 (s392 : Int))]) ?_ ?_
          ·refine bk ?_
           refine lp hl453 (fun s456 a w => St M W H [K10, K5, H] [] w ∧ Has [] 122 a [(3, .slice ad11 r7.length cap12), (6, .int .i64 (s392 : Int)), (7, .int .i64 (s456 : Int))]) ?_ ?_
           ·exact cu ⟨rfl, rfl, rfl, tv⟩
           ·rintro j s456 y459 hr457 hz458 a w ⟨hS, hA⟩
            refine TG.ap ?_ hS hA
            unfold m6_4 at hr457
            refine sq (sq (rg (m1 rfl (m1 rfl (ltI rfl rfl rfl (on ?_))))))
            refine ci rfl (fun hc463 => ?_) (fun hc463 => ?_)
            ·have hr464 := if_p hc463 hr457
             refine sk (sq (bk (sq ?_)))
             obtain ⟨x484, hx485, hr486⟩ := bd_some hr464
             obtain ⟨p487, rfl⟩ := hl13.adr hx485
             obtain ⟨cs488, hcs489, hq490, hr491⟩ := hl13.at hx485
             obtain rfl := hr491
             obtain ⟨x492, hx493, hr494⟩ := bd_some hr486
             obtain ⟨cs495, hcs496, hq497, hr498⟩ := hl13.at hx493
             obtain rfl := hr498
             refine drG 10 mixed (by kernel_rfl) rfl (dt rfl (m1 rfl fin1) (dt rfl (m1 rfl fin1) (dt rfl (iaP U92 Z95 rfl rfl rfl rfl (lt_of hx485) fin1) (dt rfl (fb 0 U95 rfl rfl rfl rfl Z3 fin1) (dt rfl (ld G3 rfl rfl ((sS 1 rfl hq490).take 1) rfl fin1) (dt rfl (m1 rfl fin1) (dt rfl (m1 rfl fin1) (dt rfl (iaP U92 Z95 rfl rfl rfl rfl (lt_of hx493) fin1) (dt rfl (fb 0 U95 rfl rfl rfl rfl Z3 fin1) (dt rfl (ld G3 rfl rfl ((sS 1 rfl hq497).take 1) rfl fin1) (DF.nil fun K499 hF => ?_)))))))))))
             refine eqI rfl rfl rfl (on ?_)
             refine ci rfl (fun hc503 => ?_) (fun hc503 => ?_)
             ·have hr504 := if_p hc503 hr494
              refine sq (rg (a1 rfl (on (rt_ ?_))))
              cases hr504
              obtain rfl := Fin.out hz458
              cases hr454
              obtain rfl := Fin.out hz394
              cases hr390
              intro a w hS hA
              refine ret1 hA rfl rfl ?_
              exact ⟨rfl, hS.ext⟩
             ·have hr505 := if_n hc503 hr494
              refine sk (rg (m1 rfl ?_))
              obtain ⟨hk506, hr507⟩ := chk_some hr505
              refine adI rfl rfl rfl hk506 (a1 rfl (on ?_))
              cases hr507
              intro a w hS hA
              exact ⟨_, hz458, hS.selH [1, 2, 3] rfl, hA.cut ⟨rfl, rfl, rfl, tv⟩⟩
            ·have hr508 := if_n hc463 hr457
             refine xt rfl ?_
             cases hr508
             obtain rfl := Fin.out hz458
             intro a w hS hA
             exact ⟨_, rfl, hS, hA.cut ⟨rfl, rfl, tv⟩⟩
          ·rintro a w ⟨t455, rfl, hS, hA⟩
           refine TG.ap ?_ hS hA
           refine rg (m1 rfl (adI rfl rfl rfl (by omega) (a1 rfl (on ?_))))
           cases hr454
           intro a w hS hA
           exact ⟨_, hz394, hS, hA.cut ⟨rfl, rfl, tv⟩⟩
         ·have hr509 := if_n hc399 hr393
          refine xt rfl ?_
          cases hr509
          obtain rfl := Fin.out hz394
          intro a w hS hA
          exact ⟨_, rfl, hS, hA.cut tv⟩
       ·rintro a w ⟨t391, rfl, hS, hA⟩
        refine TG.ap ?_ hS hA
        refine sq (rg (a1 rfl (on (rt_ ?_))))
        cases hr390
        intro a w hS hA
        refine ret1 hA rfl rfl ?_
        exact ⟨rfl, hS.ext⟩

theorem w29 {M : Prop} {W : World} {cs_x_0 : List Value} (x_0 : Erratum) (h_x_0 : (Flat encErratum) (hp W) cs_x_0 x_0) {r : Bool} (hr : m29 x_0 = some r) : Calls Tryz.prog 29 [.agg cs_x_0.toArray].toArray W (RetS M W (.bool r)) := by
 obtain rfl := h_x_0
 unfold m29 at hr
 refine enterG (M := M) Tryz.func29 rfl Tryz.ntmps29 rfl (Hp.le.refl _) ?_
 refine sq (rg (bI (cs := [.int .i64 x_0.number, .int .i64 x_0.day, .int .u8 x_0.kind, .int .i64 x_0.anchor, .string (bs x_0.text), .int .i64 x_0.new_]) rfl rfl rfl fun q1 K2 hK3 => (a1 rfl (on (sq (sq ?_))))))
 obtain ⟨t19, hx20, hr21⟩ := bd_some hr
 refine jn (fun a w => St M W (hp W) [K2, (hp W)] [] w ∧ Has [] 54 a [(1, .pointer (some q1)), (18, .bool t19)]) ?_ ?_
 ·refine rg (fb 0 U97 rfl rfl rfl rfl Z3 (ld G3 rfl rfl ((sS 0 rfl hK3).take 1) rfl ?_))
  obtain ⟨r22, hx23, hr24⟩ := bd_some hx20
  refine clS C27 rfl rfl rfl rfl (fun w H hH le => w27 x_0.number 1 999 hx23) (nt rfl rfl (m1 rfl ?_))
  rcases Bool.eq_false_or_eq_true (r22) with hb25 | hb25
  ·have hr26 := if_p hb25 hr24
   refine gN rfl rfl (congrArg not (hb25)) (fb 1 U97 rfl rfl rfl rfl Z3 (gN rfl rfl (congrArg not (hb25)) (ld G3 rfl rfl (((sS 0 rfl hK3).drop 1).take 1) rfl (gN rfl rfl (congrArg not (hb25)) ?_))))
   obtain ⟨r27, hx28, hr29⟩ := bd_some hr26
   refine clS C27 rfl rfl rfl rfl (fun w H hH le => w27 x_0.day 0 99999 hx28) (gN rfl rfl (congrArg not (hb25)) (nt rfl rfl (pF rfl rfl (congrArg not (hb25)) rfl (m1 rfl ?_))))
   rcases Bool.eq_false_or_eq_true (r27) with hb30 | hb30
   ·have hr31 := if_p hb30 hr29
    refine gN rfl rfl (congrArg not (hb30)) (fb 3 U97 rfl rfl rfl rfl Z3 (gN rfl rfl (congrArg not (hb30)) (ld G3 rfl rfl (((sS 0 rfl hK3).drop 3).take 1) rfl (gN rfl rfl (congrArg not (hb30)) ?_))))
    obtain ⟨r32, hx33, hr34⟩ := bd_some hr31
    refine clS C27 rfl rfl rfl rfl (fun w H hH le => w27 x_0.anchor 1 999 hx33) (gN rfl rfl (congrArg not (hb30)) (nt rfl rfl (pF rfl rfl (congrArg not (hb30)) rfl (on ?_))))
    cases hr34
    exact cu ⟨rfl, rfl, tv⟩
   ·have hr35 := if_f hb30 hr29
    refine gF rfl rfl (congrArg not (hb30)) rfl (gF rfl rfl (congrArg not (hb30)) rfl (gF rfl rfl (congrArg not (hb30)) rfl (gF rfl rfl (congrArg not (hb30)) rfl (pT rfl rfl (congrArg not (hb30)) rfl (on ?_)))))
    cases hr35
    exact cu ⟨rfl, rfl, tv⟩
  ·have hr36 := if_f hb25 hr24
   refine gF rfl rfl (congrArg not (hb25)) rfl (gF rfl rfl (congrArg not (hb25)) rfl (gF rfl rfl (congrArg not (hb25)) rfl (gF rfl rfl (congrArg not (hb25)) rfl (pT rfl rfl (congrArg not (hb25)) rfl (m1 rfl (gF rfl rfl rfl rfl (gF rfl rfl rfl rfl (gF rfl rfl rfl rfl (gF rfl rfl rfl rfl (pT rfl rfl rfl rfl (on ?_)))))))))))
   cases hr36
   exact cu ⟨rfl, rfl, tv⟩
 ·rintro a w ⟨hS, hA⟩
  refine TG.ap ?_ hS hA
  refine cb rfl (fun hc40 => ?_) (fun hc40 => ?_)
  ·have hr41 := if_p hc40 hr21
   refine sq (rg (a1 rfl (on (rt_ ?_))))
   cases hr41
   intro a w hS hA
   refine ret1 hA rfl rfl ?_
   exact ⟨rfl, hS.ext⟩
  ·have hr42 := if_f hc40 hr21
   refine sk (sq (sq (rg (fb 2 U97 rfl rfl rfl rfl Z5 (ld G5 rfl rfl (((sS 0 rfl hK3).drop 2).take 1) rfl (on (bk (sq (rg (eqI rfl rfl rfl (a1 rfl ?_)))))))))))
   refine on ?_
   refine ci rfl (fun hc77 => ?_) (fun hc77 => ?_)
   ·have hr78 := if_p hc77 hr42
    refine sq ?_
    obtain ⟨t85, hx86, hr87⟩ := bd_some hr78
    refine jn (fun a w => St M W (hp W) [K2, (hp W)] [] w ∧ Has [] 54 a [(2, .bool t85)]) ?_ ?_
    ·refine rg (fb 4 U97 rfl rfl rfl rfl Z9 (ld G9 rfl rfl (((sS 0 rfl hK3).drop 4).take 1) rfl ?_))
     obtain ⟨r88, hx89, hr90⟩ := bd_some hx86
     refine clS C28 rfl rfl rfl rfl (fun w H hH le => w28 x_0.text hx89) (m1 rfl ?_)
     rcases Bool.eq_false_or_eq_true (r88) with hb91 | hb91
     ·have hr92 := if_p hb91 hr90
      refine gN rfl rfl (hb91) (fb 5 U97 rfl rfl rfl rfl Z3 (gN rfl rfl (hb91) (ld G3 rfl rfl ((sS 0 rfl hK3).drop 5) rfl (gN rfl rfl (hb91) (eqI rfl rfl rfl (pT rfl rfl (hb91) rfl (a1 rfl (on ?_))))))))
      cases hr92
      exact cu ⟨rfl, tv⟩
     ·have hr93 := if_f hb91 hr90
      refine gF rfl rfl (hb91) rfl (gF rfl rfl (hb91) rfl (gF rfl rfl (hb91) rfl (pF rfl rfl (hb91) rfl (a1 rfl (on ?_)))))
      cases hr93
      exact cu ⟨rfl, tv⟩
    ·rintro a w ⟨hS, hA⟩
     refine TG.ap ?_ hS hA
     refine rt_ ?_
     cases hr87
     intro a w hS hA
     refine ret1 hA rfl rfl ?_
     exact ⟨rfl, hS.ext⟩
   ·have hr94 := if_n hc77 hr42
    refine sq (rg (eqI rfl rfl rfl (a1 rfl (on ?_))))
    refine ci rfl (fun hc102 => ?_) (fun hc102 => ?_)
    ·have hr103 := if_p hc102 hr94
     refine sq ?_
     obtain ⟨t107, hx108, hr109⟩ := bd_some hr103
     refine jn (fun a w => St M W (hp W) [K2, (hp W)] [] w ∧ Has [] 54 a [(2, .bool t107)]) ?_ ?_
     ·refine rg (fb 4 U97 rfl rfl rfl rfl Z9 (ld G9 rfl rfl (((sS 0 rfl hK3).drop 4).take 1) rfl (eqS rfl rfl rfl (m1 rfl ?_))))
      by_cases hb110 : x_0.text = []
      ·have hr111 := if_p hb110 hx108
       refine gt hb110 rfl (fb 5 U97 rfl rfl rfl rfl Z3 (gt hb110 rfl (ld G3 rfl rfl ((sS 0 rfl hK3).drop 5) rfl (gt hb110 rfl (eqI rfl rfl rfl (pt hb110 rfl rfl (a1 rfl (on ?_))))))))
       cases hr111
       exact cu ⟨rfl, tv⟩
      ·have hr112 := if_n hb110 hx108
       refine gf hb110 rfl (gf hb110 rfl (gf hb110 rfl (pf hb110 rfl rfl (a1 rfl (on ?_)))))
       cases hr112
       exact cu ⟨rfl, tv⟩
     ·rintro a w ⟨hS, hA⟩
      refine TG.ap ?_ hS hA
      refine rt_ ?_
      cases hr109
      intro a w hS hA
      refine ret1 hA rfl rfl ?_
      exact ⟨rfl, hS.ext⟩
    ·have hr113 := if_n hc102 hr94
     refine sk (sq ?_)
     obtain ⟨t126, hx127, hr128⟩ := bd_some hr113
     refine jn (fun a w => St M W (hp W) [K2, (hp W)] [] w ∧ Has [] 54 a [(2, .bool t126)]) ?_ ?_
     ·refine rg (fb 2 U97 rfl rfl rfl rfl Z5 (ld G5 rfl rfl (((sS 0 rfl hK3).drop 2).take 1) rfl (eqI rfl rfl rfl (m1 rfl ?_))))
      by_cases hb129 : x_0.kind = 2
      ·have hr130 := if_p hb129 hx127
       refine gt hb129 rfl (fb 4 U97 rfl rfl rfl rfl Z9 (gt hb129 rfl (ld G9 rfl rfl (((sS 0 rfl hK3).drop 4).take 1) rfl (gt hb129 rfl ?_))))
       obtain ⟨r131, hx132, hr133⟩ := bd_some hr130
       refine clS C28 rfl rfl rfl rfl (fun w H hH le => w28 x_0.text hx132) (pt hb129 rfl rfl (m1 rfl ?_))
       rcases Bool.eq_false_or_eq_true (r131) with hb134 | hb134
       ·have hr135 := if_p hb134 hr133
        refine gN rfl rfl (hb134) (fb 5 U97 rfl rfl rfl rfl Z3 (gN rfl rfl (hb134) (ld G3 rfl rfl ((sS 0 rfl hK3).drop 5) rfl (gN rfl rfl (hb134) ?_))))
        obtain ⟨r136, hx137, hr138⟩ := bd_some hr135
        refine clS C27 rfl rfl rfl rfl (fun w H hH le => w27 x_0.new_ 1 999 hx137) (pT rfl rfl (hb134) rfl (a1 rfl (on ?_)))
        cases hr138
        exact cu ⟨rfl, tv⟩
       ·have hr139 := if_f hb134 hr133
        refine gF rfl rfl (hb134) rfl (gF rfl rfl (hb134) rfl (gF rfl rfl (hb134) rfl (pF rfl rfl (hb134) rfl (a1 rfl (on ?_)))))
        cases hr139
        exact cu ⟨rfl, tv⟩
      ·have hr140 := if_n hb129 hx127
       refine gf hb129 rfl (gf hb129 rfl (gf hb129 rfl (pf hb129 rfl rfl (m1 rfl (gF rfl rfl rfl rfl (gF rfl rfl rfl rfl (gF rfl rfl rfl rfl (pF rfl rfl rfl rfl (a1 rfl (on ?_))))))))))
       cases hr140
       exact cu ⟨rfl, tv⟩
     ·rintro a w ⟨hS, hA⟩
      refine TG.ap ?_ hS hA
      refine rt_ ?_
      cases hr128
      intro a w hS hA
      refine ret1 hA rfl rfl ?_
      exact ⟨rfl, hS.ext⟩

theorem w30 {M : Prop} {W : World} {cs_a_0 : List Value} (a_0 : Erratum) (h_a_0 : (Flat encErratum) (hp W) cs_a_0 a_0) {cs_b_1 : List Value} (b_1 : Erratum) (h_b_1 : (Flat encErratum) (hp W) cs_b_1 b_1) {r : Bool} (hr : m30 a_0 b_1 = some r) : Calls Tryz.prog 30 [.agg cs_a_0.toArray, .agg cs_b_1.toArray].toArray W (RetS M W (.bool r)) := by
 obtain rfl := h_a_0
 obtain rfl := h_b_1
 unfold m30 at hr
 refine enterG (M := M) Tryz.func30 rfl Tryz.ntmps30 rfl (Hp.le.refl _) ?_
 refine sq (rg (bI (cs := [.int .i64 a_0.number, .int .i64 a_0.day, .int .u8 a_0.kind, .int .i64 a_0.anchor, .string (bs a_0.text), .int .i64 a_0.new_]) rfl rfl rfl fun q1 K2 hK3 => (bI (cs := [.int .i64 b_1.number, .int .i64 b_1.day, .int .u8 b_1.kind, .int .i64 b_1.anchor, .string (bs b_1.text), .int .i64 b_1.new_]) rfl rfl rfl fun q4 K5 hK6 => (a1 rfl (on (sq ?_))))))
 obtain ⟨t13, hx14, hr15⟩ := bd_some hr
 refine jn (fun a w => St M W (hp W) [K5, K2, (hp W)] [] w ∧ Has [] 24 a [(4, .bool t13)]) ?_ ?_
 ·refine rg (fb 1 U97 rfl rfl rfl rfl Z3 (ld G3 rfl rfl (((sS 1 rfl hK3).drop 1).take 1) rfl (fb 1 U97 rfl rfl rfl rfl Z3 (ld G3 rfl rfl (((sS 0 rfl hK6).drop 1).take 1) rfl (ltI rfl rfl rfl (m1 rfl ?_))))))
  by_cases hb16 : a_0.day < b_1.day
  ·have hr17 := if_p hb16 hx14
   refine gf' hb16 rfl (gf' hb16 rfl (gf' hb16 rfl (gf' hb16 rfl (gf' hb16 rfl (gf' hb16 rfl (gU rfl rfl rfl (gU rfl rfl rfl (gU rfl rfl rfl (gU rfl rfl rfl (gU rfl rfl rfl (gf' hb16 rfl ?_)))))))))))
   refine pt hb16 rfl rfl (a1 rfl (on ?_))
   cases hr17
   exact cu ⟨rfl, tv⟩
  ·have hr18 := if_n hb16 hx14
   refine gt' hb16 rfl (fb 1 U97 rfl rfl rfl rfl Z3 (gt' hb16 rfl (ld G3 rfl rfl (((sS 1 rfl hK3).drop 1).take 1) rfl (gt' hb16 rfl (fb 1 U97 rfl rfl rfl rfl Z3 (gt' hb16 rfl (ld G3 rfl rfl (((sS 0 rfl hK6).drop 1).take 1) rfl (gt' hb16 rfl (eqI rfl rfl rfl (gt' hb16 rfl (m1 rfl ?_)))))))))))
   by_cases hb19 : a_0.day = b_1.day
   ·have hr20 := if_p hb19 hr18
    refine gt hb19 rfl (fb 0 U97 rfl rfl rfl rfl Z3 (gt hb19 rfl (ld G3 rfl rfl ((sS 1 rfl hK3).take 1) rfl (gt hb19 rfl (fb 0 U97 rfl rfl rfl rfl Z3 (gt hb19 rfl (ld G3 rfl rfl ((sS 0 rfl hK6).take 1) rfl (gt hb19 rfl (ltI rfl rfl rfl (gt' hb16 rfl (pt hb19 rfl rfl ?_)))))))))))
    refine pf hb16 rfl rfl (a1 rfl (on ?_))
    cases hr20
    exact cu ⟨rfl, tv⟩
   ·have hr21 := if_n hb19 hr18
    refine gf hb19 rfl (gf hb19 rfl (gf hb19 rfl (gf hb19 rfl (gf hb19 rfl (gt' hb16 rfl (pf hb19 rfl rfl (pf hb16 rfl rfl (a1 rfl (on ?_)))))))))
    cases hr21
    exact cu ⟨rfl, tv⟩
 ·rintro a w ⟨hS, hA⟩
  refine TG.ap ?_ hS hA
  refine rt_ ?_
  cases hr15
  intro a w hS hA
  refine ret1 hA rfl rfl ?_
  exact ⟨rfl, hS.ext⟩

theorem w7 {M : Prop} {W : World} {H : Hp} (hH : H.le (hp W)) {cs_v_0 : List Value} (v_0 : Volume) (h_v_0 : (RVolume) H cs_v_0 v_0) {ad_errata : Option Addr} {cap_errata : Nat} {errata : List Erratum} (h_errata : Sl (Flat encErratum) 6 H ad_errata cap_errata errata) {r : Int} (hr : m7 v_0 errata = some r) : Calls Tryz.prog 7 [.agg cs_v_0.toArray, .slice ad_errata errata.length cap_errata].toArray W (RetS M W (.int .i64 r)) := by
 have hh_v_0 := h_v_0
 obtain ⟨ad1, cap2, rfl, hl3⟩ := h_v_0
 have := hl3.len
 have := h_errata.len
 unfold m7 at hr
 refine enterG (M := M) Tryz.func7 rfl Tryz.ntmps7 rfl hH ?_
 refine sq (rg (bI (cs := [.int .i64 v_0.number, .int .i64 v_0.bound, .int .i64 v_0.height, .int .i64 v_0.width, .slice ad1 v_0.parts.length cap2]) rfl rfl rfl fun q4 K5 hK6 => (a1 rfl (on (sq (sq (rg (m1 rfl (lnL U25 rfl rfl (gtI rfl rfl rfl (on ?_)))))))))))
 refine ci rfl (fun hc10 => ?_) (fun hc10 => ?_)
 ·have hr11 := if_p hc10 hr
  refine sq (rg (a1 rfl (on (rt_ ?_))))
  cases hr11
  intro a w hS hA
  refine ret1 hA rfl rfl ?_
  exact ⟨rfl, hS.ext⟩
 ·have hr12 := if_n hc10 hr
  refine sk (sq (sq (rg (a1 rfl (on ?_)))))
  obtain ⟨e31, hl32, hr33⟩ := bd_some hr12
  refine jn (fun a w => ∃ t34, e31 = .inl t34 ∧ St M W H [K5, H] [] w ∧ Has [] 180 a [(1, .slice ad_errata errata.length cap_errata), (2, .pointer (some q4))]) ?_ ?_
  ·refine bk ?_
   refine lp hl32 (fun s35 a w => St M W H [K5, H] [] w ∧ Has [] 180 a [(1, .slice ad_errata errata.length cap_errata), (2, .pointer (some q4)), (5, .int .i64 (s35 : Int))]) ?_ ?_
   ·exact cu ⟨rfl, rfl, rfl, tv⟩
   ·rintro j s35 y38 hr36 hz37 a w ⟨hS, hA⟩
    refine TG.ap ?_ hS hA
    unfold m7_1 at hr36
    refine sq (sq (rg (m1 rfl (m1 rfl (lnL U25 rfl rfl (ltI rfl rfl rfl (on ?_)))))))
    refine ci rfl (fun hc42 => ?_) (fun hc42 => ?_)
    ·have hr43 := if_p hc42 hr36
     refine sk (sq (bk (sq (rg (m1 rfl (m1 rfl ?_))))))
     obtain ⟨x58, hx59, hr60⟩ := bd_some hr43
     obtain ⟨p61, rfl⟩ := h_errata.adr hx59
     obtain ⟨cs62, hcs63, hq64, hr65⟩ := h_errata.at hx59
     obtain rfl := hr65
     refine iaP U25 Z97 rfl rfl rfl rfl (lt_of hx59) (ldA G97 Z97 rfl rfl (sS 1 rfl hq64) rfl ?_)
     obtain ⟨r66, hx67, hr68⟩ := bd_some hr60
     refine clS C29 rfl rfl rfl rfl (fun w H hH le => w29 x58 rfl hx67) (nt rfl rfl (on ?_))
     refine cb rfl (fun hc72 => ?_) (fun hc72 => ?_)
     ·replace hc72 := nbt hc72
      have hr73 := if_f hc72 hr68
      refine sq (rg (a1 rfl (on (rt_ ?_))))
      cases hr73
      obtain rfl := Fin.out hz37
      cases hr33
      intro a w hS hA
      refine ret1 hA rfl rfl ?_
      exact ⟨rfl, hS.ext⟩
     ·replace hc72 := nbf hc72
      have hr74 := if_p hc72 hr68
      refine sk (rg (m1 rfl (adI rfl rfl rfl (by omega) (a1 rfl (on ?_)))))
      cases hr74
      intro a w hS hA
      exact ⟨_, hz37, hS, hA.cut ⟨rfl, rfl, rfl, tv⟩⟩
    ·have hr75 := if_n hc42 hr36
     refine xt rfl ?_
     cases hr75
     obtain rfl := Fin.out hz37
     intro a w hS hA
     exact ⟨_, rfl, hS, hA.cut ⟨rfl, rfl, tv⟩⟩
  ·rintro a w ⟨t34, rfl, hS, hA⟩
   refine TG.ap ?_ hS hA
   refine sq (rg (ldA G24 Z24 rfl rfl (sS 0 rfl hK6) rfl ?_))
   obtain ⟨r76, hx77, hr78⟩ := bd_some hr33
   refine clK C26 rfl rfl rfl rfl (fun w H hH le => w26 hH v_0 (RVolume.mono _ _ _ _ (le.at 1 rfl) hh_v_0) hx77) ?_
   rintro v_ K79 ⟨ad80, cap81, rfl, hl82⟩
   have := hl82.len
   refine a1 rfl (on (sq (sq (rg (a1 rfl (on ?_))))))
   obtain ⟨e158, hl159, hr160⟩ := bd_some hr78
   refine jn (fun a w => ∃ t161, e158 = .inl t161 ∧ St M W H [K79, K5, H] [] w ∧ Has [] 180 a [(1, .slice ad_errata errata.length cap_errata), (6, .slice ad80 r76.length cap81)]) ?_ ?_
   ·refine bk ?_
    refine lp hl159 (fun s162 a w => St M W H [K79, K5, H] [] w ∧ Has [] 180 a [(1, .slice ad_errata errata.length cap_errata), (6, .slice ad80 r76.length cap81), (7, .int .i64 (s162 : Int))]) ?_ ?_
    ·exact cu ⟨rfl, rfl, rfl, tv⟩
    ·rintro j s162 y165 hr163 hz164 a w ⟨hS, hA⟩
     refine TG.ap ?_ hS hA
     unfold m7_2 at hr163
     refine sq (sq (rg (m1 rfl (m1 rfl (lnL U25 rfl rfl (ltI rfl rfl rfl (on ?_)))))))
     refine ci rfl (fun hc169 => ?_) (fun hc169 => ?_)
     ·have hr170 := if_p hc169 hr163
      refine sk (sq (bk (sq (sq (rg (a1 rfl (on ?_)))))))
      obtain ⟨e282, hl283, hr284⟩ := bd_some hr170
      refine jn (fun a w => ∃ t285, e282 = .inl t285 ∧ St M W H [K79, K5, H] [] w ∧ Has [] 180 a [(1, .slice ad_errata errata.length cap_errata), (6, .slice ad80 r76.length cap81), (7, .int .i64 (s162 : Int))]) ?_ ?_
      ·refine bk ?_
       refine lp hl283 (fun s286 a w => St M W H [K79, K5, H] [] w ∧ Has [] 180 a [(1, .slice ad_errata errata.length cap_errata), (6, .slice ad80 r76.length cap81), (7, .int .i64 (s162 : Int)), (8, .int .i64 (s286 : Int))]) ?_ ?_
       ·exact cu ⟨rfl, rfl, rfl, rfl, tv⟩
       ·rintro j s286 y289 hr287 hz288 a w ⟨hS, hA⟩
        refine TG.ap ?_ hS hA
        unfold m7_3 at hr287
        refine sq (sq (rg (m1 rfl (m1 rfl (lnL U25 rfl rfl (ltI rfl rfl rfl (on ?_)))))))
        refine ci rfl (fun hc293 => ?_) (fun hc293 => ?_)
        ·have hr294 := if_p hc293 hr287
         refine sk (sq (bk (sq ?_)))
         obtain ⟨t363, hx364, hr365⟩ := bd_some hr294
         refine jn (fun a w => St M W H [K79, K5, H] [] w ∧ Has [] 180 a [(1, .slice ad_errata errata.length cap_errata), (6, .slice ad80 r76.length cap81), (7, .int .i64 (s162 : Int)), (8, .int .i64 (s286 : Int)), (87, .bool t363)]) ?_ ?_
         ·by_cases hb366 : (s286 : Int) ≠ (s162 : Int)
          ·have hr367 := if_p hb366 hx364
           obtain ⟨x368, hx369, hr370⟩ := bd_some hr367
           obtain ⟨p371, rfl⟩ := h_errata.adr hx369
           obtain ⟨cs372, hcs373, hq374, hr375⟩ := h_errata.at hx369
           obtain rfl := hr375
           obtain ⟨x376, hx377, hr378⟩ := bd_some hr370
           obtain ⟨cs379, hcs380, hq381, hr382⟩ := h_errata.at hx377
           obtain rfl := hr382
           by_cases hb383 : x368.number = x376.number
           ·have hr384 := if_p hb383 hr378
            refine drG 41 mixed (by kernel_rfl) rfl (dt rfl (m1 rfl fin1) (dt rfl (m1 rfl fin1) (dt rfl (neI rfl rfl rfl fin1) (dt rfl (m1 rfl fin1) (dt rfl (gt hb366 rfl (m1 rfl fin1)) (dt rfl (gt hb366 rfl (m1 rfl fin1)) (dt rfl (gt hb366 rfl (iaP U25 Z97 rfl rfl rfl rfl (lt_of hx369) fin1)) (dt rfl (gt hb366 rfl (fb 0 U97 rfl rfl rfl rfl Z3 fin1)) (dt rfl (gt hb366 rfl (ld G3 rfl rfl ((sS 3 rfl hq374).take 1) rfl fin1)) (dt rfl (gt hb366 rfl (m1 rfl fin1)) (dt rfl (gt hb366 rfl (m1 rfl fin1)) ?_)))))))))))
            refine dt rfl (gt hb366 rfl (iaP U25 Z97 rfl rfl rfl rfl (lt_of hx377) fin1)) (dt rfl (gt hb366 rfl (fb 0 U97 rfl rfl rfl rfl Z3 fin1)) (dt rfl (gt hb366 rfl (ld G3 rfl rfl ((sS 3 rfl hq381).take 1) rfl fin1)) (dt rfl (gt hb366 rfl (eqI rfl rfl rfl fin1)) (dt rfl (gt hb366 rfl (m1 rfl fin1)) (dt rfl (gf' hb383 rfl fin1) (dt rfl (gf' hb383 rfl fin1) (dt rfl (gf' hb383 rfl fin1) (dt rfl (gf' hb383 rfl fin1) (dt rfl (gf' hb383 rfl fin1) (dt rfl (gf' hb383 rfl fin1) (dt rfl (gf' hb383 rfl fin1) ?_)))))))))))
            refine dt rfl (gU rfl rfl rfl fin1) (dt rfl (gU rfl rfl rfl fin1) (dt rfl (gU rfl rfl rfl fin1) (dt rfl (gU rfl rfl rfl fin1) (dt rfl (gU rfl rfl rfl fin1) (dt rfl (gU rfl rfl rfl fin1) (dt rfl (gf' hb383 rfl fin1) (dt rfl (gf' hb383 rfl fin1) (dt rfl (gU rfl rfl rfl fin1) (dt rfl (gU rfl rfl rfl fin1) (dt rfl (gU rfl rfl rfl fin1) (dt rfl (gU rfl rfl rfl fin1) ?_)))))))))))
            refine dt rfl (gU rfl rfl rfl fin1) (dt rfl (gU rfl rfl rfl fin1) (dt rfl (gU rfl rfl rfl fin1) (dt rfl (gU rfl rfl rfl fin1) (dt rfl (gU rfl rfl rfl fin1) (dt rfl (gU rfl rfl rfl fin1) (DF.nil fun K385 hF => (gU rfl rfl rfl (gf' hb383 rfl (gt hb366 rfl (pt hb383 rfl rfl (pt hb366 rfl rfl ?_)))))))))))
            refine on ?_
            cases hr384
            intro a w hS hA
            exact ⟨hS.selH [1, 2, 3] rfl, hA.cut ⟨rfl, rfl, rfl, rfl, rfl, tv⟩⟩
           ·have hr386 := if_n hb383 hr378
            by_cases hb387 : x376.kind = 2
            ·have hr388 := if_p hb387 hr386
             by_cases hb389 : x368.kind = 2
             ·have hr390 := if_p hb389 hr388
              refine drG 41 mixed (by kernel_rfl) rfl (dt rfl (m1 rfl fin1) (dt rfl (m1 rfl fin1) (dt rfl (neI rfl rfl rfl fin1) (dt rfl (m1 rfl fin1) (dt rfl (gt hb366 rfl (m1 rfl fin1)) (dt rfl (gt hb366 rfl (m1 rfl fin1)) (dt rfl (gt hb366 rfl (iaP U25 Z97 rfl rfl rfl rfl (lt_of hx369) fin1)) (dt rfl (gt hb366 rfl (fb 0 U97 rfl rfl rfl rfl Z3 fin1)) (dt rfl (gt hb366 rfl (ld G3 rfl rfl ((sS 3 rfl hq374).take 1) rfl fin1)) (dt rfl (gt hb366 rfl (m1 rfl fin1)) (dt rfl (gt hb366 rfl (m1 rfl fin1)) ?_)))))))))))
              refine dt rfl (gt hb366 rfl (iaP U25 Z97 rfl rfl rfl rfl (lt_of hx377) fin1)) (dt rfl (gt hb366 rfl (fb 0 U97 rfl rfl rfl rfl Z3 fin1)) (dt rfl (gt hb366 rfl (ld G3 rfl rfl ((sS 3 rfl hq381).take 1) rfl fin1)) (dt rfl (gt hb366 rfl (eqI rfl rfl rfl fin1)) (dt rfl (gt hb366 rfl (m1 rfl fin1)) (dt rfl (gt' hb383 rfl (m1 rfl fin1)) (dt rfl (gt' hb383 rfl (m1 rfl fin1)) (dt rfl (gt' hb383 rfl (iaP U25 Z97 rfl rfl rfl rfl (lt_of hx377) fin1)) (dt rfl (gt' hb383 rfl (fb 2 U97 rfl rfl rfl rfl Z5 fin1)) (dt rfl (gt' hb383 rfl (ld G5 rfl rfl (((sS 3 rfl hq381).drop 2).take 1) rfl fin1)) (dt rfl (gt' hb383 rfl (eqI rfl rfl rfl fin1)) (dt rfl (gt' hb383 rfl (m1 rfl fin1)) ?_)))))))))))
              refine dt rfl (gt hb387 rfl (m1 rfl fin1)) (dt rfl (gt hb387 rfl (m1 rfl fin1)) (dt rfl (gt hb387 rfl (iaP U25 Z97 rfl rfl rfl rfl (lt_of hx369) fin1)) (dt rfl (gt hb387 rfl (fb 2 U97 rfl rfl rfl rfl Z5 fin1)) (dt rfl (gt hb387 rfl (ld G5 rfl rfl (((sS 3 rfl hq374).drop 2).take 1) rfl fin1)) (dt rfl (gt hb387 rfl (eqI rfl rfl rfl fin1)) (dt rfl (gt' hb383 rfl (pt hb387 rfl rfl fin1)) (dt rfl (gt' hb383 rfl (m1 rfl fin1)) (dt rfl (gt hb389 rfl (m1 rfl fin1)) (dt rfl (gt hb389 rfl (m1 rfl fin1)) (dt rfl (gt hb389 rfl (iaP U25 Z97 rfl rfl rfl rfl (lt_of hx369) fin1)) (dt rfl (gt hb389 rfl (fb 5 U97 rfl rfl rfl rfl Z3 fin1)) ?_)))))))))))
              refine dt rfl (gt hb389 rfl (ld G3 rfl rfl ((sS 3 rfl hq374).drop 5) rfl fin1)) (dt rfl (gt hb389 rfl (m1 rfl fin1)) (dt rfl (gt hb389 rfl (m1 rfl fin1)) (dt rfl (gt hb389 rfl (iaP U25 Z97 rfl rfl rfl rfl (lt_of hx377) fin1)) (dt rfl (gt hb389 rfl (fb 5 U97 rfl rfl rfl rfl Z3 fin1)) (dt rfl (gt hb389 rfl (ld G3 rfl rfl ((sS 3 rfl hq381).drop 5) rfl fin1)) (DF.nil fun K391 hF => (gt hb389 rfl (eqI rfl rfl rfl (gt' hb383 rfl (pt hb389 rfl rfl (gt hb366 rfl ?_)))))))))))
              refine pf hb383 rfl rfl (pt hb366 rfl rfl (on ?_))
              cases hr390
              intro a w hS hA
              exact ⟨hS.selH [1, 2, 3] rfl, hA.cut ⟨rfl, rfl, rfl, rfl, rfl, tv⟩⟩
             ·have hr392 := if_n hb389 hr388
              refine drG 41 mixed (by kernel_rfl) rfl (dt rfl (m1 rfl fin1) (dt rfl (m1 rfl fin1) (dt rfl (neI rfl rfl rfl fin1) (dt rfl (m1 rfl fin1) (dt rfl (gt hb366 rfl (m1 rfl fin1)) (dt rfl (gt hb366 rfl (m1 rfl fin1)) (dt rfl (gt hb366 rfl (iaP U25 Z97 rfl rfl rfl rfl (lt_of hx369) fin1)) (dt rfl (gt hb366 rfl (fb 0 U97 rfl rfl rfl rfl Z3 fin1)) (dt rfl (gt hb366 rfl (ld G3 rfl rfl ((sS 3 rfl hq374).take 1) rfl fin1)) (dt rfl (gt hb366 rfl (m1 rfl fin1)) (dt rfl (gt hb366 rfl (m1 rfl fin1)) ?_)))))))))))
              refine dt rfl (gt hb366 rfl (iaP U25 Z97 rfl rfl rfl rfl (lt_of hx377) fin1)) (dt rfl (gt hb366 rfl (fb 0 U97 rfl rfl rfl rfl Z3 fin1)) (dt rfl (gt hb366 rfl (ld G3 rfl rfl ((sS 3 rfl hq381).take 1) rfl fin1)) (dt rfl (gt hb366 rfl (eqI rfl rfl rfl fin1)) (dt rfl (gt hb366 rfl (m1 rfl fin1)) (dt rfl (gt' hb383 rfl (m1 rfl fin1)) (dt rfl (gt' hb383 rfl (m1 rfl fin1)) (dt rfl (gt' hb383 rfl (iaP U25 Z97 rfl rfl rfl rfl (lt_of hx377) fin1)) (dt rfl (gt' hb383 rfl (fb 2 U97 rfl rfl rfl rfl Z5 fin1)) (dt rfl (gt' hb383 rfl (ld G5 rfl rfl (((sS 3 rfl hq381).drop 2).take 1) rfl fin1)) (dt rfl (gt' hb383 rfl (eqI rfl rfl rfl fin1)) (dt rfl (gt' hb383 rfl (m1 rfl fin1)) ?_)))))))))))
              refine dt rfl (gt hb387 rfl (m1 rfl fin1)) (dt rfl (gt hb387 rfl (m1 rfl fin1)) (dt rfl (gt hb387 rfl (iaP U25 Z97 rfl rfl rfl rfl (lt_of hx369) fin1)) (dt rfl (gt hb387 rfl (fb 2 U97 rfl rfl rfl rfl Z5 fin1)) (dt rfl (gt hb387 rfl (ld G5 rfl rfl (((sS 3 rfl hq374).drop 2).take 1) rfl fin1)) (dt rfl (gt hb387 rfl (eqI rfl rfl rfl fin1)) (dt rfl (gt' hb383 rfl (pt hb387 rfl rfl fin1)) (dt rfl (gt' hb383 rfl (m1 rfl fin1)) (dt rfl (gf hb389 rfl fin1) (dt rfl (gf hb389 rfl fin1) (dt rfl (gf hb389 rfl fin1) (dt rfl (gf hb389 rfl fin1) ?_)))))))))))
              refine dt rfl (gf hb389 rfl fin1) (dt rfl (gf hb389 rfl fin1) (dt rfl (gf hb389 rfl fin1) (dt rfl (gf hb389 rfl fin1) (dt rfl (gf hb389 rfl fin1) (dt rfl (gf hb389 rfl fin1) (DF.nil fun K393 hF => (gf hb389 rfl (gt' hb383 rfl (pf hb389 rfl rfl (gt hb366 rfl (pf hb383 rfl rfl ?_)))))))))))
              refine pt hb366 rfl rfl (on ?_)
              cases hr392
              intro a w hS hA
              exact ⟨hS.selH [1, 2, 3] rfl, hA.cut ⟨rfl, rfl, rfl, rfl, rfl, tv⟩⟩
            ·have hr394 := if_n hb387 hr386
             refine drG 41 mixed (by kernel_rfl) rfl (dt rfl (m1 rfl fin1) (dt rfl (m1 rfl fin1) (dt rfl (neI rfl rfl rfl fin1) (dt rfl (m1 rfl fin1) (dt rfl (gt hb366 rfl (m1 rfl fin1)) (dt rfl (gt hb366 rfl (m1 rfl fin1)) (dt rfl (gt hb366 rfl (iaP U25 Z97 rfl rfl rfl rfl (lt_of hx369) fin1)) (dt rfl (gt hb366 rfl (fb 0 U97 rfl rfl rfl rfl Z3 fin1)) (dt rfl (gt hb366 rfl (ld G3 rfl rfl ((sS 3 rfl hq374).take 1) rfl fin1)) (dt rfl (gt hb366 rfl (m1 rfl fin1)) (dt rfl (gt hb366 rfl (m1 rfl fin1)) ?_)))))))))))
             refine dt rfl (gt hb366 rfl (iaP U25 Z97 rfl rfl rfl rfl (lt_of hx377) fin1)) (dt rfl (gt hb366 rfl (fb 0 U97 rfl rfl rfl rfl Z3 fin1)) (dt rfl (gt hb366 rfl (ld G3 rfl rfl ((sS 3 rfl hq381).take 1) rfl fin1)) (dt rfl (gt hb366 rfl (eqI rfl rfl rfl fin1)) (dt rfl (gt hb366 rfl (m1 rfl fin1)) (dt rfl (gt' hb383 rfl (m1 rfl fin1)) (dt rfl (gt' hb383 rfl (m1 rfl fin1)) (dt rfl (gt' hb383 rfl (iaP U25 Z97 rfl rfl rfl rfl (lt_of hx377) fin1)) (dt rfl (gt' hb383 rfl (fb 2 U97 rfl rfl rfl rfl Z5 fin1)) (dt rfl (gt' hb383 rfl (ld G5 rfl rfl (((sS 3 rfl hq381).drop 2).take 1) rfl fin1)) (dt rfl (gt' hb383 rfl (eqI rfl rfl rfl fin1)) (dt rfl (gt' hb383 rfl (m1 rfl fin1)) ?_)))))))))))
             refine dt rfl (gf hb387 rfl fin1) (dt rfl (gf hb387 rfl fin1) (dt rfl (gf hb387 rfl fin1) (dt rfl (gf hb387 rfl fin1) (dt rfl (gf hb387 rfl fin1) (dt rfl (gf hb387 rfl fin1) (dt rfl (gt' hb383 rfl (pf hb387 rfl rfl fin1)) (dt rfl (gt' hb383 rfl (m1 rfl fin1)) (dt rfl (gF rfl rfl rfl rfl fin1) (dt rfl (gF rfl rfl rfl rfl fin1) (dt rfl (gF rfl rfl rfl rfl fin1) (dt rfl (gF rfl rfl rfl rfl fin1) ?_)))))))))))
             refine dt rfl (gF rfl rfl rfl rfl fin1) (dt rfl (gF rfl rfl rfl rfl fin1) (dt rfl (gF rfl rfl rfl rfl fin1) (dt rfl (gF rfl rfl rfl rfl fin1) (dt rfl (gF rfl rfl rfl rfl fin1) (dt rfl (gF rfl rfl rfl rfl fin1) (DF.nil fun K395 hF => (gF rfl rfl rfl rfl (gt' hb383 rfl (pF rfl rfl rfl rfl (gt hb366 rfl (pf hb383 rfl rfl ?_)))))))))))
             refine pt hb366 rfl rfl (on ?_)
             cases hr394
             intro a w hS hA
             exact ⟨hS.selH [1, 2, 3] rfl, hA.cut ⟨rfl, rfl, rfl, rfl, rfl, tv⟩⟩
          ·have hr396 := if_n hb366 hx364
           refine drG 41 mixed (by kernel_rfl) rfl (dt rfl (m1 rfl fin1) (dt rfl (m1 rfl fin1) (dt rfl (neI rfl rfl rfl fin1) (dt rfl (m1 rfl fin1) (dt rfl (gf hb366 rfl fin1) (dt rfl (gf hb366 rfl fin1) (dt rfl (gf hb366 rfl fin1) (dt rfl (gf hb366 rfl fin1) (dt rfl (gf hb366 rfl fin1) (dt rfl (gf hb366 rfl fin1) (dt rfl (gf hb366 rfl fin1) ?_)))))))))))
           refine dt rfl (gf hb366 rfl fin1) (dt rfl (gf hb366 rfl fin1) (dt rfl (gf hb366 rfl fin1) (dt rfl (gf hb366 rfl fin1) (dt rfl (gf hb366 rfl fin1) (dt rfl (gU rfl rfl rfl fin1) (dt rfl (gU rfl rfl rfl fin1) (dt rfl (gU rfl rfl rfl fin1) (dt rfl (gU rfl rfl rfl fin1) (dt rfl (gU rfl rfl rfl fin1) (dt rfl (gU rfl rfl rfl fin1) (dt rfl (gU rfl rfl rfl fin1) ?_)))))))))))
           refine dt rfl (gU rfl rfl rfl fin1) (dt rfl (gU rfl rfl rfl fin1) (dt rfl (gU rfl rfl rfl fin1) (dt rfl (gU rfl rfl rfl fin1) (dt rfl (gU rfl rfl rfl fin1) (dt rfl (gU rfl rfl rfl fin1) (dt rfl (gU rfl rfl rfl fin1) (dt rfl (gU rfl rfl rfl fin1) (dt rfl (gU rfl rfl rfl fin1) (dt rfl (gU rfl rfl rfl fin1) (dt rfl (gU rfl rfl rfl fin1) (dt rfl (gU rfl rfl rfl fin1) ?_)))))))))))
           refine dt rfl (gU rfl rfl rfl fin1) (dt rfl (gU rfl rfl rfl fin1) (dt rfl (gU rfl rfl rfl fin1) (dt rfl (gU rfl rfl rfl fin1) (dt rfl (gU rfl rfl rfl fin1) (dt rfl (gU rfl rfl rfl fin1) (DF.nil fun K397 hF => (gU rfl rfl rfl (gU rfl rfl rfl (gf hb366 rfl (pf hb366 rfl rfl (on ?_)))))))))))
           cases hr396
           intro a w hS hA
           exact ⟨hS.selH [1, 2, 3] rfl, hA.cut ⟨rfl, rfl, rfl, rfl, rfl, tv⟩⟩
         ·rintro a w ⟨hS, hA⟩
          refine TG.ap ?_ hS hA
          refine cb rfl (fun hc401 => ?_) (fun hc401 => ?_)
          ·have hr402 := if_p hc401 hr365
           refine sq (rg (a1 rfl (on (rt_ ?_))))
           cases hr402
           obtain rfl := Fin.out hz288
           cases hr284
           obtain rfl := Fin.out hz164
           cases hr160
           intro a w hS hA
           refine ret1 hA rfl rfl ?_
           exact ⟨rfl, hS.ext⟩
          ·have hr403 := if_f hc401 hr365
           refine sk (rg (m1 rfl (adI rfl rfl rfl (by omega) (a1 rfl (on ?_)))))
           cases hr403
           intro a w hS hA
           exact ⟨_, hz288, hS, hA.cut ⟨rfl, rfl, rfl, rfl, tv⟩⟩
        ·have hr404 := if_n hc293 hr287
         refine xt rfl ?_
         cases hr404
         obtain rfl := Fin.out hz288
         intro a w hS hA
         exact ⟨_, rfl, hS, hA.cut ⟨rfl, rfl, rfl, tv⟩⟩
      ·rintro a w ⟨t285, rfl, hS, hA⟩
       refine TG.ap ?_ hS hA
       refine sq (rg (a1 rfl (on ?_)))
       obtain ⟨e434, hl435, hr436⟩ := bd_some hr284
       refine jn (fun a w => ∃ t437, e434 = .inl t437 ∧ St M W H [K79, K5, H] [] w ∧ Has [] 180 a [(1, .slice ad_errata errata.length cap_errata), (6, .slice ad80 r76.length cap81), (7, .int .i64 (s162 : Int))]) ?_ ?_
       ·refine bk ?_
        refine lp hl435 (fun s438 a w => St M W H [K79, K5, H] [] w ∧ Has [] 180 a [(1, .slice ad_errata errata.length cap_errata), (6, .slice ad80 r76.length cap81), (7, .int .i64 (s162 : Int)), (9, .int .i64 (s438 : Int))]) ?_ ?_
        ·exact cu ⟨rfl, rfl, rfl, rfl, tv⟩
        ·rintro j s438 y441 hr439 hz440 a w ⟨hS, hA⟩
         refine TG.ap ?_ hS hA
         unfold m7_4 at hr439
         refine sq (sq (rg (m1 rfl (m1 rfl (lnL U92 rfl rfl (ltI rfl rfl rfl (on ?_)))))))
         refine ci rfl (fun hc445 => ?_) (fun hc445 => ?_)
         ·have hr446 := if_p hc445 hr439
          refine sk (sq (bk (sq ?_)))
          obtain ⟨t493, hx494, hr495⟩ := bd_some hr446
          refine jn (fun a w => St M W H [K79, K5, H] [] w ∧ Has [] 180 a [(1, .slice ad_errata errata.length cap_errata), (6, .slice ad80 r76.length cap81), (7, .int .i64 (s162 : Int)), (9, .int .i64 (s438 : Int)), (112, .bool t493)]) ?_ ?_
          ·obtain ⟨x496, hx497, hr498⟩ := bd_some hx494
           obtain ⟨p499, rfl⟩ := h_errata.adr hx497
           obtain ⟨cs500, hcs501, hq502, hr503⟩ := h_errata.at hx497
           obtain rfl := hr503
           by_cases hb504 : x496.kind = 2
           ·have hr505 := if_p hb504 hr498
            obtain ⟨x506, hx507, hr508⟩ := bd_some hr505
            obtain ⟨p509, rfl⟩ := hl82.adr hx507
            obtain ⟨cs510, hcs511, hq512, hr513⟩ := hl82.at hx507
            obtain rfl := hr513
            refine drG 17 mixed (by kernel_rfl) rfl (dt rfl (m1 rfl fin1) (dt rfl (m1 rfl fin1) (dt rfl (iaP U25 Z97 rfl rfl rfl rfl (lt_of hx497) fin1) (dt rfl (fb 2 U97 rfl rfl rfl rfl Z5 fin1) (dt rfl (ld G5 rfl rfl (((sS 3 rfl hq502).drop 2).take 1) rfl fin1) (dt rfl (eqI rfl rfl rfl fin1) (dt rfl (m1 rfl fin1) (dt rfl (gt hb504 rfl (m1 rfl fin1)) (dt rfl (gt hb504 rfl (m1 rfl fin1)) (dt rfl (gt hb504 rfl (iaP U92 Z95 rfl rfl rfl rfl (lt_of hx507) fin1)) (dt rfl (gt hb504 rfl (fb 0 U95 rfl rfl rfl rfl Z3 fin1)) ?_)))))))))))
            refine dt rfl (gt hb504 rfl (ld G3 rfl rfl ((sS 1 rfl hq512).take 1) rfl fin1)) (dt rfl (gt hb504 rfl (m1 rfl fin1)) (dt rfl (gt hb504 rfl (m1 rfl fin1)) (dt rfl (gt hb504 rfl (iaP U25 Z97 rfl rfl rfl rfl (lt_of hx497) fin1)) (dt rfl (gt hb504 rfl (fb 5 U97 rfl rfl rfl rfl Z3 fin1)) (dt rfl (gt hb504 rfl (ld G3 rfl rfl ((sS 3 rfl hq502).drop 5) rfl fin1)) (DF.nil fun K514 hF => (gt hb504 rfl (eqI rfl rfl rfl (pt hb504 rfl rfl (on ?_))))))))))
            cases hr508
            intro a w hS hA
            exact ⟨hS.selH [1, 2, 3] rfl, hA.cut ⟨rfl, rfl, rfl, rfl, rfl, tv⟩⟩
           ·have hr515 := if_n hb504 hr498
            refine drG 17 mixed (by kernel_rfl) rfl (dt rfl (m1 rfl fin1) (dt rfl (m1 rfl fin1) (dt rfl (iaP U25 Z97 rfl rfl rfl rfl (lt_of hx497) fin1) (dt rfl (fb 2 U97 rfl rfl rfl rfl Z5 fin1) (dt rfl (ld G5 rfl rfl (((sS 3 rfl hq502).drop 2).take 1) rfl fin1) (dt rfl (eqI rfl rfl rfl fin1) (dt rfl (m1 rfl fin1) (dt rfl (gf hb504 rfl fin1) (dt rfl (gf hb504 rfl fin1) (dt rfl (gf hb504 rfl fin1) (dt rfl (gf hb504 rfl fin1) ?_)))))))))))
            refine dt rfl (gf hb504 rfl fin1) (dt rfl (gf hb504 rfl fin1) (dt rfl (gf hb504 rfl fin1) (dt rfl (gf hb504 rfl fin1) (dt rfl (gf hb504 rfl fin1) (dt rfl (gf hb504 rfl fin1) (DF.nil fun K516 hF => (gf hb504 rfl (pf hb504 rfl rfl (on ?_)))))))))
            cases hr515
            intro a w hS hA
            exact ⟨hS.selH [1, 2, 3] rfl, hA.cut ⟨rfl, rfl, rfl, rfl, rfl, tv⟩⟩
          ·rintro a w ⟨hS, hA⟩
           refine TG.ap ?_ hS hA
           refine cb rfl (fun hc520 => ?_) (fun hc520 => ?_)
           ·have hr521 := if_p hc520 hr495
            refine sq (rg (a1 rfl (on (rt_ ?_))))
            cases hr521
            obtain rfl := Fin.out hz440
            cases hr436
            obtain rfl := Fin.out hz164
            cases hr160
            intro a w hS hA
            refine ret1 hA rfl rfl ?_
            exact ⟨rfl, hS.ext⟩
           ·have hr522 := if_f hc520 hr495
            refine sk (rg (m1 rfl (adI rfl rfl rfl (by omega) (a1 rfl (on ?_)))))
            cases hr522
            intro a w hS hA
            exact ⟨_, hz440, hS, hA.cut ⟨rfl, rfl, rfl, rfl, tv⟩⟩
         ·have hr523 := if_n hc445 hr439
          refine xt rfl ?_
          cases hr523
          obtain rfl := Fin.out hz440
          intro a w hS hA
          exact ⟨_, rfl, hS, hA.cut ⟨rfl, rfl, rfl, tv⟩⟩
       ·rintro a w ⟨t437, rfl, hS, hA⟩
        refine TG.ap ?_ hS hA
        refine rg (m1 rfl (adI rfl rfl rfl (by omega) (a1 rfl (on ?_))))
        cases hr436
        intro a w hS hA
        exact ⟨_, hz164, hS, hA.cut ⟨rfl, rfl, rfl, tv⟩⟩
     ·have hr524 := if_n hc169 hr163
      refine xt rfl ?_
      cases hr524
      obtain rfl := Fin.out hz164
      intro a w hS hA
      exact ⟨_, rfl, hS, hA.cut ⟨rfl, rfl, tv⟩⟩
   ·rintro a w ⟨t161, rfl, hS, hA⟩
    refine TG.ap ?_ hS hA
    refine sq (sq (rg (a1 rfl (on ?_))))
    obtain ⟨e596, hl597, hr598⟩ := bd_some hr160
    refine jn (fun a w => ∃ t599, e596 = .inl t599 ∧ St M W H [K79, K5, H] [] w ∧ Has [] 180 a []) ?_ ?_
    ·refine bk ?_
     refine lp hl597 (fun s600 a w => St M W H [K79, K5, H] [] w ∧ Has [] 180 a [(1, .slice ad_errata errata.length cap_errata), (6, .slice ad80 r76.length cap81), (10, .int .i64 (s600 : Int))]) ?_ ?_
     ·exact cu ⟨rfl, rfl, rfl, tv⟩
     ·rintro j s600 y603 hr601 hz602 a w ⟨hS, hA⟩
      refine TG.ap ?_ hS hA
      unfold m7_5 at hr601
      refine sq (sq (rg (m1 rfl (m1 rfl (lnL U25 rfl rfl (ltI rfl rfl rfl (on ?_)))))))
      refine ci rfl (fun hc607 => ?_) (fun hc607 => ?_)
      ·have hr608 := if_p hc607 hr601
       refine sk (sq (bk (sq (rg (a1 rfl (on (sq (sq (rg (a1 rfl (on ?_)))))))))))
       obtain ⟨e702, hl703, hr704⟩ := bd_some hr608
       refine jn (fun a w => St M W H [K79, K5, H] [] w ∧ Has [] 180 a [(1, .slice ad_errata errata.length cap_errata), (6, .slice ad80 r76.length cap81), (10, .int .i64 (s600 : Int)), (11, .bool e702)]) ?_ ?_
       ·refine bk ?_
        refine lp hl703 (fun s705 a w => St M W H [K79, K5, H] [] w ∧ Has [] 180 a [(1, .slice ad_errata errata.length cap_errata), (6, .slice ad80 r76.length cap81), (10, .int .i64 (s600 : Int)), (11, .bool s705.2), (12, .int .i64 (s705.1 : Int))]) ?_ ?_
        ·exact cu ⟨rfl, rfl, rfl, rfl, rfl, tv⟩
        ·rintro j s705 y708 hr706 hz707 a w ⟨hS, hA⟩
         refine TG.ap ?_ hS hA
         unfold m7_6 at hr706
         refine sq (sq (rg (m1 rfl (m1 rfl (lnL U92 rfl rfl (ltI rfl rfl rfl (on ?_)))))))
         refine ci rfl (fun hc712 => ?_) (fun hc712 => ?_)
         ·have hr713 := if_p hc712 hr706
          refine sk (sq (bk ?_))
          obtain ⟨t757, hx758, hr759⟩ := bd_some hr713
          refine jn (fun a w => St M W H [K79, K5, H] [] w ∧ Has [] 180 a [(1, .slice ad_errata errata.length cap_errata), (6, .slice ad80 r76.length cap81), (10, .int .i64 (s600 : Int)), (11, .bool t757), (12, .int .i64 (s705.1 : Int))]) ?_ ?_
          ·rcases Bool.eq_false_or_eq_true (s705.2) with hb760 | hb760
           ·have hr761 := if_p hb760 hx758
            refine drG 12 mixed (by kernel_rfl) rfl (dt rfl (m1 rfl fin1) (dt rfl (m1 rfl fin1) (dt rfl (gF rfl rfl (hb760) rfl fin1) (dt rfl (gF rfl rfl (hb760) rfl fin1) (dt rfl (gF rfl rfl (hb760) rfl fin1) (dt rfl (gF rfl rfl (hb760) rfl fin1) (dt rfl (gF rfl rfl (hb760) rfl fin1) (dt rfl (gF rfl rfl (hb760) rfl fin1) (dt rfl (gF rfl rfl (hb760) rfl fin1) (dt rfl (gF rfl rfl (hb760) rfl fin1) (dt rfl (gF rfl rfl (hb760) rfl fin1) ?_)))))))))))
            refine dt rfl (gF rfl rfl (hb760) rfl fin1) (DF.nil fun K762 hF => (gF rfl rfl (hb760) rfl (pT rfl rfl (hb760) rfl (a1 rfl (on ?_)))))
            cases hr761
            intro a w hS hA
            exact ⟨hS.selH [1, 2, 3] rfl, hA.cut ⟨rfl, rfl, rfl, rfl, rfl, tv⟩⟩
           ·have hr763 := if_f hb760 hx758
            obtain ⟨x764, hx765, hr766⟩ := bd_some hr763
            obtain ⟨p767, rfl⟩ := hl82.adr hx765
            obtain ⟨cs768, hcs769, hq770, hr771⟩ := hl82.at hx765
            obtain rfl := hr771
            obtain ⟨x772, hx773, hr774⟩ := bd_some hr766
            obtain ⟨p775, rfl⟩ := h_errata.adr hx773
            obtain ⟨cs776, hcs777, hq778, hr779⟩ := h_errata.at hx773
            obtain rfl := hr779
            refine drG 12 mixed (by kernel_rfl) rfl (dt rfl (m1 rfl fin1) (dt rfl (m1 rfl fin1) (dt rfl (gN rfl rfl (hb760) (m1 rfl fin1)) (dt rfl (gN rfl rfl (hb760) (m1 rfl fin1)) (dt rfl (gN rfl rfl (hb760) (iaP U92 Z95 rfl rfl rfl rfl (lt_of hx765) fin1)) (dt rfl (gN rfl rfl (hb760) (fb 0 U95 rfl rfl rfl rfl Z3 fin1)) (dt rfl (gN rfl rfl (hb760) (ld G3 rfl rfl ((sS 1 rfl hq770).take 1) rfl fin1)) (dt rfl (gN rfl rfl (hb760) (m1 rfl fin1)) (dt rfl (gN rfl rfl (hb760) (m1 rfl fin1)) (dt rfl (gN rfl rfl (hb760) (iaP U25 Z97 rfl rfl rfl rfl (lt_of hx773) fin1)) (dt rfl (gN rfl rfl (hb760) (fb 3 U97 rfl rfl rfl rfl Z3 fin1)) ?_)))))))))))
            refine dt rfl (gN rfl rfl (hb760) (ld G3 rfl rfl (((sS 3 rfl hq778).drop 3).take 1) rfl fin1)) (DF.nil fun K780 hF => (gN rfl rfl (hb760) (eqI rfl rfl rfl (pF rfl rfl (hb760) rfl (a1 rfl (on ?_))))))
            cases hr774
            intro a w hS hA
            exact ⟨hS.selH [1, 2, 3] rfl, hA.cut ⟨rfl, rfl, rfl, rfl, rfl, tv⟩⟩
          ·rintro a w ⟨hS, hA⟩
           refine TG.ap ?_ hS hA
           refine rg (m1 rfl (adI rfl rfl rfl (by omega) (a1 rfl (on ?_))))
           cases hr759
           intro a w hS hA
           exact ⟨_, hz707, hS, hA.cut ⟨rfl, rfl, rfl, rfl, rfl, tv⟩⟩
         ·have hr781 := if_n hc712 hr706
          refine xt rfl ?_
          cases hr781
          obtain rfl := Fin.out hz707
          exact cu ⟨rfl, rfl, rfl, rfl, tv⟩
       ·rintro a w ⟨hS, hA⟩
        refine TG.ap ?_ hS hA
        refine sq (sq (rg (a1 rfl (on ?_))))
        obtain ⟨e818, hl819, hr820⟩ := bd_some hr704
        refine jn (fun a w => St M W H [K79, K5, H] [] w ∧ Has [] 180 a [(1, .slice ad_errata errata.length cap_errata), (6, .slice ad80 r76.length cap81), (10, .int .i64 (s600 : Int)), (11, .bool e818)]) ?_ ?_
        ·refine bk ?_
         refine lp hl819 (fun s821 a w => St M W H [K79, K5, H] [] w ∧ Has [] 180 a [(1, .slice ad_errata errata.length cap_errata), (6, .slice ad80 r76.length cap81), (10, .int .i64 (s600 : Int)), (11, .bool s821.2), (13, .int .i64 (s821.1 : Int))]) ?_ ?_
         ·exact cu ⟨rfl, rfl, rfl, rfl, rfl, tv⟩
         ·rintro j s821 y824 hr822 hz823 a w ⟨hS, hA⟩
          refine TG.ap ?_ hS hA
          unfold m7_7 at hr822
          refine sq (sq (rg (m1 rfl (m1 rfl (lnL U25 rfl rfl (ltI rfl rfl rfl (on ?_)))))))
          refine ci rfl (fun hc828 => ?_) (fun hc828 => ?_)
          ·have hr829 := if_p hc828 hr822
           refine sk (sq (bk ?_))
           obtain ⟨t893, hx894, hr895⟩ := bd_some hr829
           refine jn (fun a w => St M W H [K79, K5, H] [] w ∧ Has [] 180 a [(1, .slice ad_errata errata.length cap_errata), (6, .slice ad80 r76.length cap81), (10, .int .i64 (s600 : Int)), (11, .bool t893), (13, .int .i64 (s821.1 : Int))]) ?_ ?_
           ·rcases Bool.eq_false_or_eq_true (s821.2) with hb896 | hb896
            ·have hr897 := if_p hb896 hx894
             refine drG 30 mixed (by kernel_rfl) rfl (dt rfl (m1 rfl fin1) (dt rfl (m1 rfl fin1) (dt rfl (gF rfl rfl (hb896) rfl fin1) (dt rfl (gF rfl rfl (hb896) rfl fin1) (dt rfl (gF rfl rfl (hb896) rfl fin1) (dt rfl (gF rfl rfl (hb896) rfl fin1) (dt rfl (gF rfl rfl (hb896) rfl fin1) (dt rfl (gF rfl rfl (hb896) rfl fin1) (dt rfl (gF rfl rfl (hb896) rfl fin1) (dt rfl (gU rfl rfl rfl fin1) (dt rfl (gU rfl rfl rfl fin1) ?_)))))))))))
             refine dt rfl (gU rfl rfl rfl fin1) (dt rfl (gU rfl rfl rfl fin1) (dt rfl (gU rfl rfl rfl fin1) (dt rfl (gU rfl rfl rfl fin1) (dt rfl (gU rfl rfl rfl fin1) (dt rfl (gU rfl rfl rfl fin1) (dt rfl (gU rfl rfl rfl fin1) (dt rfl (gU rfl rfl rfl fin1) (dt rfl (gU rfl rfl rfl fin1) (dt rfl (gF rfl rfl (hb896) rfl fin1) (dt rfl (gF rfl rfl (hb896) rfl fin1) (dt rfl (gU rfl rfl rfl fin1) ?_)))))))))))
             refine dt rfl (gU rfl rfl rfl fin1) (dt rfl (gU rfl rfl rfl fin1) (dt rfl (gU rfl rfl rfl fin1) (dt rfl (gU rfl rfl rfl fin1) (dt rfl (gU rfl rfl rfl fin1) (dt rfl (gU rfl rfl rfl fin1) (dt rfl (gU rfl rfl rfl fin1) (DF.nil fun K898 hF => (gU rfl rfl rfl (gF rfl rfl (hb896) rfl (pT rfl rfl (hb896) rfl (a1 rfl ?_)))))))))))
             refine on ?_
             cases hr897
             intro a w hS hA
             exact ⟨hS.selH [1, 2, 3] rfl, hA.cut ⟨rfl, rfl, rfl, rfl, rfl, tv⟩⟩
            ·have hr899 := if_f hb896 hx894
             obtain ⟨x900, hx901, hr902⟩ := bd_some hr899
             obtain ⟨p903, rfl⟩ := h_errata.adr hx901
             obtain ⟨cs904, hcs905, hq906, hr907⟩ := h_errata.at hx901
             obtain rfl := hr907
             by_cases hb908 : x900.kind = 2
             ·have hr909 := if_p hb908 hr902
              obtain ⟨x910, hx911, hr912⟩ := bd_some hr909
              obtain ⟨cs913, hcs914, hq915, hr916⟩ := h_errata.at hx911
              obtain rfl := hr916
              by_cases hb917 : x900.new_ = x910.anchor
              ·have hr918 := if_p hb917 hr912
               refine drG 30 mixed (by kernel_rfl) rfl (dt rfl (m1 rfl fin1) (dt rfl (m1 rfl fin1) (dt rfl (gN rfl rfl (hb896) (m1 rfl fin1)) (dt rfl (gN rfl rfl (hb896) (m1 rfl fin1)) (dt rfl (gN rfl rfl (hb896) (iaP U25 Z97 rfl rfl rfl rfl (lt_of hx901) fin1)) (dt rfl (gN rfl rfl (hb896) (fb 2 U97 rfl rfl rfl rfl Z5 fin1)) (dt rfl (gN rfl rfl (hb896) (ld G5 rfl rfl (((sS 3 rfl hq906).drop 2).take 1) rfl fin1)) (dt rfl (gN rfl rfl (hb896) (eqI rfl rfl rfl fin1)) (dt rfl (gN rfl rfl (hb896) (m1 rfl fin1)) (dt rfl (gt hb908 rfl (m1 rfl fin1)) (dt rfl (gt hb908 rfl (m1 rfl fin1)) ?_)))))))))))
               refine dt rfl (gt hb908 rfl (iaP U25 Z97 rfl rfl rfl rfl (lt_of hx901) fin1)) (dt rfl (gt hb908 rfl (fb 5 U97 rfl rfl rfl rfl Z3 fin1)) (dt rfl (gt hb908 rfl (ld G3 rfl rfl ((sS 3 rfl hq906).drop 5) rfl fin1)) (dt rfl (gt hb908 rfl (m1 rfl fin1)) (dt rfl (gt hb908 rfl (m1 rfl fin1)) (dt rfl (gt hb908 rfl (iaP U25 Z97 rfl rfl rfl rfl (lt_of hx911) fin1)) (dt rfl (gt hb908 rfl (fb 3 U97 rfl rfl rfl rfl Z3 fin1)) (dt rfl (gt hb908 rfl (ld G3 rfl rfl (((sS 3 rfl hq915).drop 3).take 1) rfl fin1)) (dt rfl (gt hb908 rfl (eqI rfl rfl rfl fin1)) (dt rfl (gN rfl rfl (hb896) (pt hb908 rfl rfl fin1)) (dt rfl (gN rfl rfl (hb896) (m1 rfl fin1)) (dt rfl (gt hb917 rfl (m1 rfl fin1)) ?_)))))))))))
               refine dt rfl (gt hb917 rfl (m1 rfl fin1)) (dt rfl (gt hb917 rfl (iaP U25 Z97 rfl rfl rfl rfl (lt_of hx901) fin1)) (dt rfl (gt hb917 rfl (ldA G97 Z97 rfl rfl (sS 3 rfl hq906) rfl fin1)) (dt rfl (gt hb917 rfl (m1 rfl fin1)) (dt rfl (gt hb917 rfl (m1 rfl fin1)) (dt rfl (gt hb917 rfl (iaP U25 Z97 rfl rfl rfl rfl (lt_of hx911) fin1)) (dt rfl (gt hb917 rfl (ldA G97 Z97 rfl rfl (sS 3 rfl hq915) rfl fin1)) (DF.nil fun K919 hF => (gt hb917 rfl ?_))))))))
               obtain ⟨r920, hx921, hr922⟩ := bd_some hr918
               refine clS C30 rfl rfl rfl rfl (fun w H hH le => w30 x900 rfl x910 rfl hx921) (gN rfl rfl (hb896) (pt hb917 rfl rfl (pF rfl rfl (hb896) rfl (a1 rfl (on ?_)))))
               cases hr922
               intro a w hS hA
               exact ⟨hS.selH [1, 2, 3] rfl, hA.cut ⟨rfl, rfl, rfl, rfl, rfl, tv⟩⟩
              ·have hr923 := if_n hb917 hr912
               refine drG 30 mixed (by kernel_rfl) rfl (dt rfl (m1 rfl fin1) (dt rfl (m1 rfl fin1) (dt rfl (gN rfl rfl (hb896) (m1 rfl fin1)) (dt rfl (gN rfl rfl (hb896) (m1 rfl fin1)) (dt rfl (gN rfl rfl (hb896) (iaP U25 Z97 rfl rfl rfl rfl (lt_of hx901) fin1)) (dt rfl (gN rfl rfl (hb896) (fb 2 U97 rfl rfl rfl rfl Z5 fin1)) (dt rfl (gN rfl rfl (hb896) (ld G5 rfl rfl (((sS 3 rfl hq906).drop 2).take 1) rfl fin1)) (dt rfl (gN rfl rfl (hb896) (eqI rfl rfl rfl fin1)) (dt rfl (gN rfl rfl (hb896) (m1 rfl fin1)) (dt rfl (gt hb908 rfl (m1 rfl fin1)) (dt rfl (gt hb908 rfl (m1 rfl fin1)) ?_)))))))))))
               refine dt rfl (gt hb908 rfl (iaP U25 Z97 rfl rfl rfl rfl (lt_of hx901) fin1)) (dt rfl (gt hb908 rfl (fb 5 U97 rfl rfl rfl rfl Z3 fin1)) (dt rfl (gt hb908 rfl (ld G3 rfl rfl ((sS 3 rfl hq906).drop 5) rfl fin1)) (dt rfl (gt hb908 rfl (m1 rfl fin1)) (dt rfl (gt hb908 rfl (m1 rfl fin1)) (dt rfl (gt hb908 rfl (iaP U25 Z97 rfl rfl rfl rfl (lt_of hx911) fin1)) (dt rfl (gt hb908 rfl (fb 3 U97 rfl rfl rfl rfl Z3 fin1)) (dt rfl (gt hb908 rfl (ld G3 rfl rfl (((sS 3 rfl hq915).drop 3).take 1) rfl fin1)) (dt rfl (gt hb908 rfl (eqI rfl rfl rfl fin1)) (dt rfl (gN rfl rfl (hb896) (pt hb908 rfl rfl fin1)) (dt rfl (gN rfl rfl (hb896) (m1 rfl fin1)) (dt rfl (gf hb917 rfl fin1) ?_)))))))))))
               refine dt rfl (gf hb917 rfl fin1) (dt rfl (gf hb917 rfl fin1) (dt rfl (gf hb917 rfl fin1) (dt rfl (gf hb917 rfl fin1) (dt rfl (gf hb917 rfl fin1) (dt rfl (gf hb917 rfl fin1) (dt rfl (gf hb917 rfl fin1) (DF.nil fun K924 hF => (gf hb917 rfl (gN rfl rfl (hb896) (pf hb917 rfl rfl (pF rfl rfl (hb896) rfl ?_)))))))))))
               refine a1 rfl (on ?_)
               cases hr923
               intro a w hS hA
               exact ⟨hS.selH [1, 2, 3] rfl, hA.cut ⟨rfl, rfl, rfl, rfl, rfl, tv⟩⟩
             ·have hr925 := if_n hb908 hr902
              refine drG 30 mixed (by kernel_rfl) rfl (dt rfl (m1 rfl fin1) (dt rfl (m1 rfl fin1) (dt rfl (gN rfl rfl (hb896) (m1 rfl fin1)) (dt rfl (gN rfl rfl (hb896) (m1 rfl fin1)) (dt rfl (gN rfl rfl (hb896) (iaP U25 Z97 rfl rfl rfl rfl (lt_of hx901) fin1)) (dt rfl (gN rfl rfl (hb896) (fb 2 U97 rfl rfl rfl rfl Z5 fin1)) (dt rfl (gN rfl rfl (hb896) (ld G5 rfl rfl (((sS 3 rfl hq906).drop 2).take 1) rfl fin1)) (dt rfl (gN rfl rfl (hb896) (eqI rfl rfl rfl fin1)) (dt rfl (gN rfl rfl (hb896) (m1 rfl fin1)) (dt rfl (gf hb908 rfl fin1) (dt rfl (gf hb908 rfl fin1) ?_)))))))))))
              refine dt rfl (gf hb908 rfl fin1) (dt rfl (gf hb908 rfl fin1) (dt rfl (gf hb908 rfl fin1) (dt rfl (gf hb908 rfl fin1) (dt rfl (gf hb908 rfl fin1) (dt rfl (gf hb908 rfl fin1) (dt rfl (gf hb908 rfl fin1) (dt rfl (gf hb908 rfl fin1) (dt rfl (gf hb908 rfl fin1) (dt rfl (gN rfl rfl (hb896) (pf hb908 rfl rfl fin1)) (dt rfl (gN rfl rfl (hb896) (m1 rfl fin1)) (dt rfl (gF rfl rfl rfl rfl fin1) ?_)))))))))))
              refine dt rfl (gF rfl rfl rfl rfl fin1) (dt rfl (gF rfl rfl rfl rfl fin1) (dt rfl (gF rfl rfl rfl rfl fin1) (dt rfl (gF rfl rfl rfl rfl fin1) (dt rfl (gF rfl rfl rfl rfl fin1) (dt rfl (gF rfl rfl rfl rfl fin1) (dt rfl (gF rfl rfl rfl rfl fin1) (DF.nil fun K926 hF => (gF rfl rfl rfl rfl (gN rfl rfl (hb896) (pF rfl rfl rfl rfl (pF rfl rfl (hb896) rfl ?_)))))))))))
              refine a1 rfl (on ?_)
              cases hr925
              intro a w hS hA
              exact ⟨hS.selH [1, 2, 3] rfl, hA.cut ⟨rfl, rfl, rfl, rfl, rfl, tv⟩⟩
           ·rintro a w ⟨hS, hA⟩
            refine TG.ap ?_ hS hA
            refine rg (m1 rfl (adI rfl rfl rfl (by omega) (a1 rfl (on ?_))))
            cases hr895
            intro a w hS hA
            exact ⟨_, hz823, hS, hA.cut ⟨rfl, rfl, rfl, rfl, rfl, tv⟩⟩
          ·have hr927 := if_n hc828 hr822
           refine xt rfl ?_
           cases hr927
           obtain rfl := Fin.out hz823
           exact cu ⟨rfl, rfl, rfl, rfl, tv⟩
        ·rintro a w ⟨hS, hA⟩
         refine TG.ap ?_ hS hA
         refine sq (rg (m1 rfl (nt rfl rfl (on ?_))))
         refine cb rfl (fun hc931 => ?_) (fun hc931 => ?_)
         ·replace hc931 := nbt hc931
          have hr932 := if_f hc931 hr820
          refine sq (rg (a1 rfl (on (rt_ ?_))))
          cases hr932
          obtain rfl := Fin.out hz602
          cases hr598
          intro a w hS hA
          refine ret1 hA rfl rfl ?_
          exact ⟨rfl, hS.ext⟩
         ·replace hc931 := nbf hc931
          have hr933 := if_p hc931 hr820
          refine sk (rg (m1 rfl (adI rfl rfl rfl (by omega) (a1 rfl (on ?_)))))
          cases hr933
          intro a w hS hA
          exact ⟨_, hz602, hS, hA.cut ⟨rfl, rfl, rfl, tv⟩⟩
      ·have hr934 := if_n hc607 hr601
       refine xt rfl ?_
       cases hr934
       obtain rfl := Fin.out hz602
       intro a w hS hA
       exact ⟨_, rfl, hS, hA.cut tv⟩
    ·rintro a w ⟨t599, rfl, hS, hA⟩
     refine TG.ap ?_ hS hA
     refine sq (rg (a1 rfl (on (rt_ ?_))))
     cases hr598
     intro a w hS hA
     refine ret1 hA rfl rfl ?_
     exact ⟨rfl, hS.ext⟩

theorem w31 {M : Prop} {W : World} (n_0 : Int) (low : Int) (high : Int) {r : Bool} (hr : m31 n_0 low high = some r) : Calls Tryz.prog 31 [.int .i64 n_0, .int .i64 low, .int .i64 high].toArray W (RetS M W (.bool r)) := by
 unfold m31 at hr
 refine enterG (M := M) Tryz.func31 rfl Tryz.ntmps31 rfl (Hp.le.refl _) ?_
 refine sq (rg (a1 rfl (on (sq ?_))))
 obtain ⟨t4, hx5, hr6⟩ := bd_some hr
 refine jn (fun a w => St M W (hp W) [(hp W)] [] w ∧ Has [] 15 a [(6, .bool t4)]) ?_ ?_
 ·refine rg (m1 rfl (m1 rfl (geI rfl rfl rfl (m1 rfl ?_))))
  by_cases hb7 : low ≤ n_0
  ·have hr8 := if_p hb7 hx5
   refine gt hb7 rfl (m1 rfl (gt hb7 rfl (m1 rfl (gt hb7 rfl (leI rfl rfl rfl (pt hb7 rfl rfl (a1 rfl (on ?_))))))))
   cases hr8
   exact cu ⟨rfl, tv⟩
  ·have hr9 := if_n hb7 hx5
   refine gf hb7 rfl (gf hb7 rfl (gf hb7 rfl (pf hb7 rfl rfl (a1 rfl (on ?_)))))
   cases hr9
   exact cu ⟨rfl, tv⟩
 ·rintro a w ⟨hS, hA⟩
  refine TG.ap ?_ hS hA
  refine rt_ ?_
  cases hr6
  intro a w hS hA
  refine ret1 hA rfl rfl ?_
  exact ⟨rfl, hS.ext⟩

theorem w32 {M : Prop} {W : World} {H : Hp} (hH : H.le (hp W)) {ad_l_0 : Option Addr} {cap_l_0 : Nat} {l_0 : List Int} (h_l_0 : Sl (Flat (encI .i64)) 1 H ad_l_0 cap_l_0 l_0) (most : Int) {r : Bool} (hr : m32 l_0 most = some r) : Calls Tryz.prog 32 [.slice ad_l_0 l_0.length cap_l_0, .int .i64 most].toArray W (RetS M W (.bool r)) := by
 have := h_l_0.len
 unfold m32 at hr
 refine enterG (M := M) Tryz.func32 rfl Tryz.ntmps32 rfl hH ?_
 refine sq (rg (a1 rfl (on (sq (sq (rg (a1 rfl (on ?_))))))))
 obtain ⟨e36, hl37, hr38⟩ := bd_some hr
 refine jn (fun a w => ∃ t39, e36 = .inl t39 ∧ St M W H [H] [] w ∧ Has [] 35 a []) ?_ ?_
 ·refine bk ?_
  refine lp hl37 (fun s40 a w => St M W H [H] [] w ∧ Has [] 35 a [(0, .slice ad_l_0 l_0.length cap_l_0), (1, .int .i64 most), (5, .int .i64 (s40 : Int))]) ?_ ?_
  ·exact cu ⟨rfl, rfl, rfl, tv⟩
  ·rintro j s40 y43 hr41 hz42 a w ⟨hS, hA⟩
   refine TG.ap ?_ hS hA
   unfold m32_1 at hr41
   refine sq (sq (rg (m1 rfl (m1 rfl (lnL U28 rfl rfl (ltI rfl rfl rfl (on ?_)))))))
   refine ci rfl (fun hc47 => ?_) (fun hc47 => ?_)
   ·have hr48 := if_p hc47 hr41
    refine sk (sq (bk (sq ?_)))
    obtain ⟨t107, hx108, hr109⟩ := bd_some hr48
    refine jn (fun a w => St M W H [H] [] w ∧ Has [] 35 a [(0, .slice ad_l_0 l_0.length cap_l_0), (1, .int .i64 most), (5, .int .i64 (s40 : Int)), (34, .bool t107)]) ?_ ?_
    ·obtain ⟨x110, hx111, hr112⟩ := bd_some hx108
     obtain ⟨p113, rfl⟩ := h_l_0.adr hx111
     obtain ⟨cs114, hcs115, hq116, hr117⟩ := h_l_0.at hx111
     obtain rfl := hr117
     obtain ⟨r118, hx119, hr120⟩ := bd_some hr112
     rcases Bool.eq_false_or_eq_true (r118) with hb121 | hb121
     ·have hr122 := if_p hb121 hr120
      by_cases hb123 : 0 < (s40 : Int)
      ·have hr124 := if_p hb123 hr122
       obtain ⟨x125, hx126, hr127⟩ := bd_some hr124
       obtain ⟨cs128, hcs129, hq130, hr131⟩ := h_l_0.at hx126
       obtain rfl := hr131
       refine drG 20 mixed (by kernel_rfl) rfl (dt rfl (m1 rfl fin1) (dt rfl (m1 rfl fin1) (dt rfl (iaP U28 Z3 rfl rfl rfl rfl (lt_of hx111) fin1) (dt rfl (ld G3 rfl rfl (sS 1 rfl hq116) rfl fin1) (dt rfl (m1 rfl fin1) (dt rfl (clS C31 rfl rfl rfl rfl (fun w H hH le => w31 x110 0 most hx119) fin1) (dt rfl (nt rfl rfl fin1) (dt rfl (m1 rfl fin1) (dt rfl (gN rfl rfl (congrArg not (hb121)) (m1 rfl fin1)) (dt rfl (gN rfl rfl (congrArg not (hb121)) (gtI rfl rfl rfl fin1)) (dt rfl (gN rfl rfl (congrArg not (hb121)) (m1 rfl fin1)) ?_)))))))))))
       refine dt rfl (gt hb123 rfl (m1 rfl fin1)) (dt rfl (gt hb123 rfl (m1 rfl fin1)) (dt rfl (gt hb123 rfl (iaP U28 Z3 rfl rfl rfl rfl (lt_of hx111) fin1)) (dt rfl (gt hb123 rfl (ld G3 rfl rfl (sS 1 rfl hq116) rfl fin1)) (dt rfl (gt hb123 rfl (m1 rfl fin1)) (dt rfl (gt hb123 rfl (m1 rfl fin1)) (dt rfl (gt hb123 rfl (sbI rfl rfl rfl (by omega) fin1)) (dt rfl (gt hb123 rfl (iaP U28 Z3 rfl rfl rfl (by omega) (lt_of hx126) fin1)) (dt rfl (gt hb123 rfl (ld G3 rfl rfl (sS 1 rfl hq130) rfl fin1)) (DF.nil fun K132 hF => (gt hb123 rfl (leI rfl rfl rfl ?_)))))))))))
       refine gN rfl rfl (congrArg not (hb121)) (pt hb123 rfl rfl (pF rfl rfl (congrArg not (hb121)) rfl (on ?_)))
       cases hr127
       intro a w hS hA
       exact ⟨hS.selH [1] rfl, hA.cut ⟨rfl, rfl, rfl, rfl, tv⟩⟩
      ·have hr133 := if_n hb123 hr122
       refine drG 20 mixed (by kernel_rfl) rfl (dt rfl (m1 rfl fin1) (dt rfl (m1 rfl fin1) (dt rfl (iaP U28 Z3 rfl rfl rfl rfl (lt_of hx111) fin1) (dt rfl (ld G3 rfl rfl (sS 1 rfl hq116) rfl fin1) (dt rfl (m1 rfl fin1) (dt rfl (clS C31 rfl rfl rfl rfl (fun w H hH le => w31 x110 0 most hx119) fin1) (dt rfl (nt rfl rfl fin1) (dt rfl (m1 rfl fin1) (dt rfl (gN rfl rfl (congrArg not (hb121)) (m1 rfl fin1)) (dt rfl (gN rfl rfl (congrArg not (hb121)) (gtI rfl rfl rfl fin1)) (dt rfl (gN rfl rfl (congrArg not (hb121)) (m1 rfl fin1)) ?_)))))))))))
       refine dt rfl (gf hb123 rfl fin1) (dt rfl (gf hb123 rfl fin1) (dt rfl (gf hb123 rfl fin1) (dt rfl (gf hb123 rfl fin1) (dt rfl (gf hb123 rfl fin1) (dt rfl (gf hb123 rfl fin1) (dt rfl (gf hb123 rfl fin1) (dt rfl (gf hb123 rfl fin1) (dt rfl (gf hb123 rfl fin1) (DF.nil fun K134 hF => (gf hb123 rfl (gN rfl rfl (congrArg not (hb121)) ?_)))))))))))
       refine pf hb123 rfl rfl (pF rfl rfl (congrArg not (hb121)) rfl (on ?_))
       cases hr133
       intro a w hS hA
       exact ⟨hS.selH [1] rfl, hA.cut ⟨rfl, rfl, rfl, rfl, tv⟩⟩
     ·have hr135 := if_f hb121 hr120
      refine drG 20 mixed (by kernel_rfl) rfl (dt rfl (m1 rfl fin1) (dt rfl (m1 rfl fin1) (dt rfl (iaP U28 Z3 rfl rfl rfl rfl (lt_of hx111) fin1) (dt rfl (ld G3 rfl rfl (sS 1 rfl hq116) rfl fin1) (dt rfl (m1 rfl fin1) (dt rfl (clS C31 rfl rfl rfl rfl (fun w H hH le => w31 x110 0 most hx119) fin1) (dt rfl (nt rfl rfl fin1) (dt rfl (m1 rfl fin1) (dt rfl (gF rfl rfl (congrArg not (hb121)) rfl fin1) (dt rfl (gF rfl rfl (congrArg not (hb121)) rfl fin1) (dt rfl (gF rfl rfl (congrArg not (hb121)) rfl fin1) ?_)))))))))))
      refine dt rfl (gU rfl rfl rfl fin1) (dt rfl (gU rfl rfl rfl fin1) (dt rfl (gU rfl rfl rfl fin1) (dt rfl (gU rfl rfl rfl fin1) (dt rfl (gU rfl rfl rfl fin1) (dt rfl (gU rfl rfl rfl fin1) (dt rfl (gU rfl rfl rfl fin1) (dt rfl (gU rfl rfl rfl fin1) (dt rfl (gU rfl rfl rfl fin1) (DF.nil fun K136 hF => (gU rfl rfl rfl (gF rfl rfl (congrArg not (hb121)) rfl ?_)))))))))))
      refine pT rfl rfl (congrArg not (hb121)) rfl (on ?_)
      cases hr135
      intro a w hS hA
      exact ⟨hS.selH [1] rfl, hA.cut ⟨rfl, rfl, rfl, rfl, tv⟩⟩
    ·rintro a w ⟨hS, hA⟩
     refine TG.ap ?_ hS hA
     refine cb rfl (fun hc140 => ?_) (fun hc140 => ?_)
     ·have hr141 := if_p hc140 hr109
      refine sq (rg (a1 rfl (on (rt_ ?_))))
      cases hr141
      obtain rfl := Fin.out hz42
      cases hr38
      intro a w hS hA
      refine ret1 hA rfl rfl ?_
      exact ⟨rfl, hS.ext⟩
     ·have hr142 := if_f hc140 hr109
      refine sk (rg (m1 rfl (adI rfl rfl rfl (by omega) (a1 rfl (on ?_)))))
      cases hr142
      intro a w hS hA
      exact ⟨_, hz42, hS, hA.cut ⟨rfl, rfl, rfl, tv⟩⟩
   ·have hr143 := if_n hc47 hr41
    refine xt rfl ?_
    cases hr143
    obtain rfl := Fin.out hz42
    intro a w hS hA
    exact ⟨_, rfl, hS, hA.cut tv⟩
 ·rintro a w ⟨t39, rfl, hS, hA⟩
  refine TG.ap ?_ hS hA
  refine sq (rg (a1 rfl (on (rt_ ?_))))
  cases hr38
  intro a w hS hA
  refine ret1 hA rfl rfl ?_
  exact ⟨rfl, hS.ext⟩

theorem w8 {M : Prop} {W : World} {H : Hp} (hH : H.le (hp W)) {cs_x_0 : List Value} (x_0 : Reader) (h_x_0 : (RReader) H cs_x_0 x_0) {r : Bool} (hr : m8 x_0 = some r) : Calls Tryz.prog 8 [.agg cs_x_0.toArray].toArray W (RetS M W (.bool r)) := by
 have hh_x_0 := h_x_0
 obtain ⟨ad1, cap2, rfl, hl3⟩ := h_x_0
 have := hl3.len
 unfold m8 at hr
 refine enterG (M := M) Tryz.func8 rfl Tryz.ntmps8 rfl hH ?_
 refine sq (rg (bI (cs := [.int .i64 x_0.year, .slice ad1 x_0.may.length cap2]) rfl rfl rfl fun q4 K5 hK6 => (a1 rfl (on (sq ?_)))))
 obtain ⟨t16, hx17, hr18⟩ := bd_some hr
 refine jn (fun a w => St M W H [K5, H] [] w ∧ Has [] 11 a [(2, .bool t16)]) ?_ ?_
 ·refine rg (fb 0 U30 rfl rfl rfl rfl Z3 (ld G3 rfl rfl ((sS 0 rfl hK6).take 1) rfl ?_))
  obtain ⟨r19, hx20, hr21⟩ := bd_some hx17
  refine clS C31 rfl rfl rfl rfl (fun w H hH le => w31 x_0.year 0 9999 hx20) (m1 rfl ?_)
  rcases Bool.eq_false_or_eq_true (r19) with hb22 | hb22
  ·have hr23 := if_p hb22 hr21
   refine gN rfl rfl (hb22) (fb 1 U30 rfl rfl rfl rfl Z28 (gN rfl rfl (hb22) (ld G28 rfl rfl ((sS 0 rfl hK6).drop 1) rfl (gN rfl rfl (hb22) ?_))))
   obtain ⟨r24, hx25, hr26⟩ := bd_some hr23
   refine clS C32 rfl rfl rfl rfl (fun w H hH le => w32 hH (hl3.mono (Flat.mono _) (le.at 1 rfl)) 7 hx25) (pT rfl rfl (hb22) rfl (a1 rfl (on ?_)))
   cases hr26
   exact cu ⟨rfl, tv⟩
  ·have hr27 := if_f hb22 hr21
   refine gF rfl rfl (hb22) rfl (gF rfl rfl (hb22) rfl (gF rfl rfl (hb22) rfl (pF rfl rfl (hb22) rfl (a1 rfl (on ?_)))))
   cases hr27
   exact cu ⟨rfl, tv⟩
 ·rintro a w ⟨hS, hA⟩
  refine TG.ap ?_ hS hA
  refine rt_ ?_
  cases hr18
  intro a w hS hA
  refine ret1 hA rfl rfl ?_
  exact ⟨rfl, hS.ext⟩

theorem w53 {M : Prop} {W : World} {H : Hp} (hH : H.le (hp W)) {cs_v_0 : List Value} (v_0 : Volume) (h_v_0 : (RVolume) H cs_v_0 v_0) {r : List Paragraph} (hr : m53 v_0 = some r) : Calls Tryz.prog 53 [.agg cs_v_0.toArray].toArray W (RetK M H W (fun v K => ∃ (ad0 : Option Addr) (cap0 : Nat), v = .slice ad0 r.length cap0 ∧ Sl (Flat encParagraph) 2 K ad0 cap0 r)) := by
 have hh_v_0 := h_v_0
 obtain ⟨ad1, cap2, rfl, hl3⟩ := h_v_0
 have := hl3.len
 unfold m53 at hr
 refine enterG (M := M) Tryz.func53 rfl Tryz.ntmps53 rfl hH ?_
 refine sq (rg (bI (cs := [.int .i64 v_0.number, .int .i64 v_0.bound, .int .i64 v_0.height, .int .i64 v_0.width, .slice ad1 v_0.parts.length cap2]) rfl rfl rfl fun q4 K5 hK6 => (a1 rfl (on (sq (sq (rg (fb 4 U42 rfl rfl rfl rfl Z40 (ld G40 rfl rfl ((sS 0 rfl hK6).drop 4) rfl (lnL U40 rfl rfl (m1 rfl ?_)))))))))))
 refine on (TG.nilRow 2 52 2 (TG.as 2 (z := Own.list none 0 52 2 encParagraph ([] : List Paragraph)) rfl rfl ?_))
 obtain ⟨e82, hl83, hr84⟩ := bd_some hr
 refine jn (fun a w => ∃ (ad85 : Option Addr) (cap86 : Nat), St M W H [K5, H] [(2, Own.list ad85 cap86 52 2 encParagraph e82)] w ∧ Has [] 18 a [(2, .slice ad85 e82.length cap86)]) ?_ ?_
 ·refine bk ?_
  refine lp hl83 (fun s87 a w => ∃ (ad88 : Option Addr) (cap89 : Nat), St M W H [K5, H] [(2, Own.list ad88 cap89 52 2 encParagraph s87.2)] w ∧ Has [] 18 a [(2, .slice ad88 s87.2.length cap89), (6, .slice ad1 v_0.parts.length cap2), (7, .int .i64 (v_0.parts.length : Int)), (8, .int .i64 (s87.1 : Int))]) ?_ ?_
  ·intro a w hS hA
   exact ⟨none, 0, hS, hA.cut ⟨rfl, rfl, rfl, rfl, tv⟩⟩
  ·rintro j s87 y92 hr90 hz91 a w ⟨ad88, cap89, hS, hA⟩
   refine TG.ap ?_ hS hA
   unfold m53_1 at hr90
   refine sq (rg (ltI rfl rfl rfl (on (sq ?_))))
   refine ci rfl (fun hc96 => ?_) (fun hc96 => ?_)
   ·have hr97 := if_p hc96 hr90
    refine sk (sq (bk (sq (rg ?_))))
    obtain ⟨x117, hx118, hr119⟩ := bd_some hr97
    obtain ⟨p120, rfl⟩ := hl3.adr hx118
    obtain ⟨cs121, hcs122, hq123, hr124⟩ := hl3.at hx118
    have hr125 := hr124
    obtain ⟨ad126, cap127, rfl, hl128⟩ := hr124
    have := hl128.len
    refine iaP U40 Z105 rfl rfl rfl rfl (lt_of hx118) (ldA G105 Z105 rfl rfl (sS 1 rfl hq123) rfl (va (cs := [.int .i64 x117.day, .slice ad126 x117.paragraphs.length cap127]) Tryz.zeroValue105 Z105 rfl rfl rfl rfl rfl rfl rfl rfl fun q129 K130 hK131 => (on (rg (m1 rfl (fb 1 U105 rfl rfl rfl rfl Z36 (ld G36 rfl rfl ((sS 0 rfl hK131).drop 1) rfl ?_)))))))
    obtain ⟨hk132, hr133⟩ := chk_some hr119
    have := lenA s87.2 x117.paragraphs
    refine apS 2 (enc := encParagraph) (l := s87.2) (m := x117.paragraphs) T10.E36 rfl rfl rfl rfl rfl rfl hl128 2 rfl (fun _ => rfl) (fun _ => rfl) rfl hk132 fun ad134 cap135 => (a1 rfl (on (rg (adI rfl rfl rfl (by omega) (m1 rfl (on ?_))))))
    cases hr133
    intro a w hS hA
    exact ⟨_, hz91, ad134, cap135, hS.selH [1, 2] rfl, hA.cut ⟨rfl, rfl, rfl, rfl, tv⟩⟩
   ·have hr136 := if_n hc96 hr90
    refine xt rfl ?_
    cases hr136
    obtain rfl := Fin.out hz91
    intro a w hS hA
    exact ⟨ad88, cap89, hS, hA.cut ⟨rfl, tv⟩⟩
 ·rintro a w ⟨ad85, cap86, hS, hA⟩
  refine TG.ap ?_ hS hA
  refine sq (rg (m1 rfl (a1 rfl (on (rt_ ?_)))))
  cases hr84
  intro a w hS hA
  refine ret1 hA rfl rfl ?_
  exact ⟨⟨_, _, rfl, (hS.listOut 2 rfl (fun _ => rfl))⟩, hS.ext⟩

theorem w44 {M : Prop} {W : World} (n_0 : Int) (low : Int) (high : Int) {r : Bool} (hr : m44 n_0 low high = some r) : Calls Tryz.prog 44 [.int .i64 n_0, .int .i64 low, .int .i64 high].toArray W (RetS M W (.bool r)) := by
 unfold m44 at hr
 refine enterG (M := M) Tryz.func44 rfl Tryz.ntmps44 rfl (Hp.le.refl _) ?_
 refine sq (rg (a1 rfl (on (sq ?_))))
 obtain ⟨t4, hx5, hr6⟩ := bd_some hr
 refine jn (fun a w => St M W (hp W) [(hp W)] [] w ∧ Has [] 15 a [(6, .bool t4)]) ?_ ?_
 ·refine rg (m1 rfl (m1 rfl (leI rfl rfl rfl (m1 rfl ?_))))
  by_cases hb7 : low ≤ n_0
  ·have hr8 := if_p hb7 hx5
   refine gt hb7 rfl (m1 rfl (gt hb7 rfl (m1 rfl (gt hb7 rfl (leI rfl rfl rfl (pt hb7 rfl rfl (a1 rfl (on ?_))))))))
   cases hr8
   exact cu ⟨rfl, tv⟩
  ·have hr9 := if_n hb7 hx5
   refine gf hb7 rfl (gf hb7 rfl (gf hb7 rfl (pf hb7 rfl rfl (a1 rfl (on ?_)))))
   cases hr9
   exact cu ⟨rfl, tv⟩
 ·rintro a w ⟨hS, hA⟩
  refine TG.ap ?_ hS hA
  refine rt_ ?_
  cases hr6
  intro a w hS hA
  refine ret1 hA rfl rfl ?_
  exact ⟨rfl, hS.ext⟩

theorem w34 {M : Prop} {W : World} (n_0 : Int) {r : Bool} (hr : m34 n_0 = some r) : Calls Tryz.prog 34 [.int .i64 n_0].toArray W (RetS M W (.bool r)) := by
 unfold m34 at hr
 refine enterG (M := M) Tryz.func34 rfl Tryz.ntmps34 rfl (Hp.le.refl _) ?_
 refine sq (rg (a1 rfl (on (sq (rg (m1 rfl ?_))))))
 obtain ⟨r1, hx2, hr3⟩ := bd_some hr
 refine clS C44 rfl rfl rfl rfl (fun w H hH le => w44 n_0 0 99999 hx2) (a1 rfl (on (rt_ ?_)))
 cases hr3
 intro a w hS hA
 refine ret1 hA rfl rfl ?_
 exact ⟨rfl, hS.ext⟩

theorem w158 {M : Prop} {W : World} {H : Hp} (hH : H.le (hp W)) {cs_x_0 : List Value} (x_0 : Paragraph) (h_x_0 : (Flat encParagraph) H cs_x_0 x_0) {q_f0_ : Addr} {fv_f0_ : Value} {f0_ : Paragraph → Option Bool} (hc_f0_ : CellsAt H q_f0_ [fv_f0_]) (h_f0_ : FnV M Tryz.prog H fv_f0_ (SF1 (Va encParagraph) Value.bool f0_)) {r : Bool} (hr : m158 x_0 f0_ = some r) : Calls Tryz.prog 158 [.agg cs_x_0.toArray, .pointer (some q_f0_)].toArray W (RetS M W (.bool r)) := by
 obtain rfl := h_x_0
 have hh_f0_ := h_f0_
 obtain ⟨f_f0_, fi_f0_, ca_f0_, rfl, _, _⟩ := h_f0_
 unfold m158 at hr
 refine enterG (M := M) Tryz.func158 rfl Tryz.ntmps158 rfl hH ?_
 refine sq (rg (bI (cs := [.int .i64 x_0.anchor, .string (bs x_0.text)]) rfl rfl rfl fun q1 K2 hK3 => (a1 rfl (on (sq (rg (ld G224 rfl rfl (sS 1 rfl hc_f0_) rfl (ldA G52 Z52 rfl rfl (sS 0 rfl hK3) rfl ?_))))))))
 obtain ⟨r4, hx5, hr6⟩ := bd_some hr
 refine clV (v := .bool r4) hh_f0_ 1 rfl rfl rfl rfl (fun H le => ⟨_, x_0, r4, rfl, rfl, hx5, rfl⟩) (nt rfl rfl (a1 rfl (on (rt_ ?_))))
 cases hr6
 intro a w hS hA
 refine ret1 hA rfl rfl ?_
 exact ⟨rfl, hS.ext⟩

theorem w199 {M : Prop} {W : World} {H : Hp} (hH : H.le (hp W)) {ad_s_0 : Option Addr} {cap_s_0 : Nat} {s_0 : List Paragraph} (h_s_0 : Sl (Flat encParagraph) 2 H ad_s_0 cap_s_0 s_0) {fv_f_1 : Value} {f_1 : Paragraph → Option Bool} (h_f_1 : FnV M Tryz.prog H fv_f_1 (SF1 (Va encParagraph) Value.bool f_1)) {r : Int} (hr : m199 s_0 f_1 = some r) : Calls Tryz.prog 199 [.slice ad_s_0 s_0.length cap_s_0, fv_f_1].toArray W (RetS M W (.int .i64 r)) := by
 have := h_s_0.len
 have hh_f_1 := h_f_1
 obtain ⟨f_f_1, fi_f_1, ca_f_1, rfl, _, _⟩ := h_f_1
 unfold m199 at hr
 refine enterG (M := M) Tryz.func199 rfl Tryz.ntmps199 rfl hH ?_
 refine sq (rg (a1 rfl (on (sq (sq (rg (m1 rfl (lnL U36 rfl rfl (m1 rfl (on ?_))))))))))
 obtain ⟨e19, hl20, hr21⟩ := bd_some hr
 refine jn (fun a w => ∃ t22, e19 = .inl t22 ∧ St M W H [H] [] w ∧ Has [] 19 a []) ?_ ?_
 ·refine bk ?_
  refine lp hl20 (fun s23 a w => St M W H [H] [] w ∧ Has [] 19 a [(0, .slice ad_s_0 s_0.length cap_s_0), (1, .func (.func f_f_1) fi_f_1.toArray ca_f_1.toArray), (7, .int .i64 (s_0.length : Int)), (8, .int .i64 (s23 : Int))]) ?_ ?_
  ·exact cu ⟨rfl, rfl, rfl, rfl, tv⟩
  ·rintro j s23 y26 hr24 hz25 a w ⟨hS, hA⟩
   refine TG.ap ?_ hS hA
   unfold m199_1 at hr24
   refine sq (rg (ltI rfl rfl rfl (on (sq ?_))))
   refine ci rfl (fun hc30 => ?_) (fun hc30 => ?_)
   ·have hr31 := if_p hc30 hr24
    refine sk (sq (bk (sq (rg (m1 rfl (a1 rfl (on (sq (rg (m1 rfl (m1 rfl ?_)))))))))))
    refine m1 rfl ?_
    obtain ⟨x46, hx47, hr48⟩ := bd_some hr31
    obtain ⟨p49, rfl⟩ := h_s_0.adr hx47
    obtain ⟨cs50, hcs51, hq52, hr53⟩ := h_s_0.at hx47
    obtain rfl := hr53
    refine iaP U36 Z52 rfl rfl rfl rfl (lt_of hx47) (ldA G52 Z52 rfl rfl (sS 0 rfl hq52) rfl ?_)
    obtain ⟨r54, hx55, hr56⟩ := bd_some hr48
    refine clV (v := .bool r54) hh_f_1 0 rfl rfl rfl rfl (fun H le => ⟨_, x46, r54, rfl, rfl, hx55, rfl⟩) (on ?_)
    refine cb rfl (fun hc60 => ?_) (fun hc60 => ?_)
    ·have hr61 := if_p hc60 hr56
     refine sq (rg (m1 rfl (a1 rfl (on (rt_ ?_)))))
     cases hr61
     obtain rfl := Fin.out hz25
     cases hr21
     intro a w hS hA
     refine ret1 hA rfl rfl ?_
     exact ⟨rfl, hS.ext⟩
    ·have hr62 := if_f hc60 hr56
     refine sk (rg (adI rfl rfl rfl (by omega) (m1 rfl (on ?_))))
     cases hr62
     intro a w hS hA
     exact ⟨_, hz25, hS, hA.cut ⟨rfl, rfl, rfl, rfl, tv⟩⟩
   ·have hr63 := if_n hc30 hr24
    refine xt rfl ?_
    cases hr63
    obtain rfl := Fin.out hz25
    intro a w hS hA
    exact ⟨_, rfl, hS, hA.cut tv⟩
 ·rintro a w ⟨t22, rfl, hS, hA⟩
  refine TG.ap ?_ hS hA
  refine sq (rg (a1 rfl (on (rt_ ?_))))
  cases hr21
  intro a w hS hA
  refine ret1 hA rfl rfl ?_
  exact ⟨rfl, hS.ext⟩

theorem w157 {M : Prop} {W : World} {H : Hp} (hH : H.le (hp W)) {ad_s_0 : Option Addr} {cap_s_0 : Nat} {s_0 : List Paragraph} (h_s_0 : Sl (Flat encParagraph) 2 H ad_s_0 cap_s_0 s_0) {fv_f_1 : Value} {f_1 : Paragraph → Option Bool} (h_f_1 : FnV M Tryz.prog H fv_f_1 (SF1 (Va encParagraph) Value.bool f_1)) {r : Bool} (hr : m157 s_0 f_1 = some r) : Calls Tryz.prog 157 [.slice ad_s_0 s_0.length cap_s_0, fv_f_1].toArray W (RetS M W (.bool r)) := by
 have := h_s_0.len
 have hh_f_1 := h_f_1
 obtain ⟨f_f_1, fi_f_1, ca_f_1, rfl, _, _⟩ := h_f_1
 unfold m157 at hr
 refine enterG (M := M) Tryz.func157 rfl Tryz.ntmps157 rfl hH ?_
 refine sq (rg (a1 rfl (on (sq (rg (m1 rfl (m1 rfl ?_)))))))
 obtain ⟨r1, hx2, hr3⟩ := bd_some hr
 refine clS C199 rfl rfl rfl rfl (fun w H hH le => w199 hH (h_s_0.mono (Flat.mono _) (le.at 0 rfl)) (f_1 := f_1) (hh_f_1.mono (le.at 0 rfl)) hx2) (geI rfl rfl rfl (a1 rfl (on (rt_ ?_))))
 cases hr3
 intro a w hS hA
 refine ret1 hA rfl rfl ?_
 exact ⟨rfl, hS.ext⟩

theorem w122 {M : Prop} {W : World} {H : Hp} (hH : H.le (hp W)) {ad_l_0 : Option Addr} {cap_l_0 : Nat} {l_0 : List Paragraph} (h_l_0 : Sl (Flat encParagraph) 2 H ad_l_0 cap_l_0 l_0) {fv_right : Value} {right : Paragraph → Option Bool} (h_right : FnV M Tryz.prog H fv_right (SF1 (Va encParagraph) Value.bool right)) {r : Bool} (hr : m122 l_0 right = some r) : Calls Tryz.prog 122 [.slice ad_l_0 l_0.length cap_l_0, fv_right].toArray W (RetS M W (.bool r)) := by
 have := h_l_0.len
 have hh_right := h_right
 obtain ⟨f_right, fi_right, ca_right, rfl, _, _⟩ := h_right
 unfold m122 at hr
 refine enterG (M := M) Tryz.func122 rfl Tryz.ntmps122 rfl hH ?_
 refine sq (rg (bI (cs := [.func (.func f_right) fi_right.toArray ca_right.toArray]) rfl rfl rfl fun q1 K2 hK3 => (a1 rfl (on (sq (rg (m1 rfl (fn rfl rfl rfl ?_))))))))
 obtain ⟨r5, hx6, hr7⟩ := bd_some hr
 refine clS (v := .bool r5) C157 rfl rfl rfl rfl (fun w H hH le => by
   have hf4 : FnV M Tryz.prog H (.func (.func 158) [].toArray [.pointer (some q1)].toArray) (SF1 (Va encParagraph) Value.bool (fun x0_ => m158 x0_ right)) := ⟨158, [], [.pointer (some q1)], rfl, C158, fun w_ K_ args_ v_ hK hw hs => by obtain ⟨u0_, x0_, r_, rfl, h0_, hx, rfl⟩ := hs; cases h0_; exact w158 (H := K_) hw  x0_ rfl (f0_ := right) (hK3.mono ((le.at 0 rfl).trans hK)) (hh_right.mono ((le.at 1 rfl).trans hK)) hx⟩
   exact w157 hH (h_l_0.mono (Flat.mono _) (le.at 1 rfl)) (f_1 := (fun x0_ => m158 x0_ right)) hf4 hx6) ?_
 refine nt rfl rfl (a1 rfl (on (rt_ ?_)))
 cases hr7
 intro a w hS hA
 refine ret1 hA rfl rfl ?_
 exact ⟨rfl, hS.ext⟩

theorem w83 {M : Prop} {W : World} (n_0 : Int) {r : Bool} (hr : m83 n_0 = some r) : Calls Tryz.prog 83 [.int .i64 n_0].toArray W (RetS M W (.bool r)) := by
 unfold m83 at hr
 refine enterG (M := M) Tryz.func83 rfl Tryz.ntmps83 rfl (Hp.le.refl _) ?_
 refine sq (rg (a1 rfl (on (sq (rg (m1 rfl ?_))))))
 obtain ⟨r1, hx2, hr3⟩ := bd_some hr
 refine clS C44 rfl rfl rfl rfl (fun w H hH le => w44 n_0 1 999 hx2) (a1 rfl (on (rt_ ?_)))
 cases hr3
 intro a w hS hA
 refine ret1 hA rfl rfl ?_
 exact ⟨rfl, hS.ext⟩

theorem w160 {M : Prop} {W : World} {H : Hp} (hH : H.le (hp W)) (x_0 : Int) {q_f0_ : Addr} {fv_f0_ : Value} {f0_ : Int → Option Bool} (hc_f0_ : CellsAt H q_f0_ [fv_f0_]) (h_f0_ : FnV M Tryz.prog H fv_f0_ (SF1 (Vi .u8) Value.bool f0_)) {r : Bool} (hr : m160 x_0 f0_ = some r) : Calls Tryz.prog 160 [.int .u8 x_0, .pointer (some q_f0_)].toArray W (RetS M W (.bool r)) := by
 have hh_f0_ := h_f0_
 obtain ⟨f_f0_, fi_f0_, ca_f0_, rfl, _, _⟩ := h_f0_
 unfold m160 at hr
 refine enterG (M := M) Tryz.func160 rfl Tryz.ntmps160 rfl hH ?_
 refine sq (rg (a1 rfl (on (sq (rg (ld G227 rfl rfl (sS 0 rfl hc_f0_) rfl (m1 rfl ?_)))))))
 obtain ⟨r1, hx2, hr3⟩ := bd_some hr
 refine clV (v := .bool r1) hh_f0_ 0 rfl rfl rfl rfl (fun H le => ⟨_, x_0, r1, rfl, rfl, hx2, rfl⟩) (nt rfl rfl (a1 rfl (on (rt_ ?_))))
 cases hr3
 intro a w hS hA
 refine ret1 hA rfl rfl ?_
 exact ⟨rfl, hS.ext⟩

theorem w200 {M : Prop} {W : World} {H : Hp} (hH : H.le (hp W)) {ad_s_0 : Option Addr} {cap_s_0 : Nat} {s_0 : List UInt8} (h_s_0 : Sl (Flat encC) 1 H ad_s_0 cap_s_0 s_0) {fv_f_1 : Value} {f_1 : Int → Option Bool} (h_f_1 : FnV M Tryz.prog H fv_f_1 (SF1 (Vi .u8) Value.bool f_1)) {r : Int} (hr : m200 s_0 f_1 = some r) : Calls Tryz.prog 200 [.slice ad_s_0 s_0.length cap_s_0, fv_f_1].toArray W (RetS M W (.int .i64 r)) := by
 have := h_s_0.len
 have hh_f_1 := h_f_1
 obtain ⟨f_f_1, fi_f_1, ca_f_1, rfl, _, _⟩ := h_f_1
 unfold m200 at hr
 refine enterG (M := M) Tryz.func200 rfl Tryz.ntmps200 rfl hH ?_
 refine sq (rg (a1 rfl (on (sq (sq (rg (m1 rfl (lnL U147 rfl rfl (m1 rfl (on ?_))))))))))
 obtain ⟨e19, hl20, hr21⟩ := bd_some hr
 refine jn (fun a w => ∃ t22, e19 = .inl t22 ∧ St M W H [H] [] w ∧ Has [] 19 a []) ?_ ?_
 ·refine bk ?_
  refine lp hl20 (fun s23 a w => St M W H [H] [] w ∧ Has [] 19 a [(0, .slice ad_s_0 s_0.length cap_s_0), (1, .func (.func f_f_1) fi_f_1.toArray ca_f_1.toArray), (7, .int .i64 (s_0.length : Int)), (8, .int .i64 (s23 : Int))]) ?_ ?_
  ·exact cu ⟨rfl, rfl, rfl, rfl, tv⟩
  ·rintro j s23 y26 hr24 hz25 a w ⟨hS, hA⟩
   refine TG.ap ?_ hS hA
   unfold m200_1 at hr24
   refine sq (rg (ltI rfl rfl rfl (on (sq ?_))))
   refine ci rfl (fun hc30 => ?_) (fun hc30 => ?_)
   ·have hr31 := if_p hc30 hr24
    refine sk (sq (bk (sq (rg (m1 rfl (a1 rfl (on (sq (rg (m1 rfl (m1 rfl ?_)))))))))))
    refine m1 rfl ?_
    obtain ⟨x46, hx47, hr48⟩ := bd_some hr31
    obtain ⟨p49, rfl⟩ := h_s_0.adr hx47
    obtain ⟨cs50, hcs51, hq52, hr53⟩ := h_s_0.at hx47
    have := UInt8.toNat_lt x46
    obtain rfl := hr53
    refine iaP U147 Z5 rfl rfl rfl rfl (lt_of hx47) (ld G5 rfl rfl (sS 0 rfl hq52) rfl ?_)
    obtain ⟨r54, hx55, hr56⟩ := bd_some hr48
    refine clV (v := .bool r54) hh_f_1 0 rfl rfl rfl rfl (fun H le => ⟨_, (x46.toNat : Int), r54, rfl, rfl, hx55, rfl⟩) (on ?_)
    refine cb rfl (fun hc60 => ?_) (fun hc60 => ?_)
    ·have hr61 := if_p hc60 hr56
     refine sq (rg (m1 rfl (a1 rfl (on (rt_ ?_)))))
     cases hr61
     obtain rfl := Fin.out hz25
     cases hr21
     intro a w hS hA
     refine ret1 hA rfl rfl ?_
     exact ⟨rfl, hS.ext⟩
    ·have hr62 := if_f hc60 hr56
     refine sk (rg (adI rfl rfl rfl (by omega) (m1 rfl (on ?_))))
     cases hr62
     intro a w hS hA
     exact ⟨_, hz25, hS, hA.cut ⟨rfl, rfl, rfl, rfl, tv⟩⟩
   ·have hr63 := if_n hc30 hr24
    refine xt rfl ?_
    cases hr63
    obtain rfl := Fin.out hz25
    intro a w hS hA
    exact ⟨_, rfl, hS, hA.cut tv⟩
 ·rintro a w ⟨t22, rfl, hS, hA⟩
  refine TG.ap ?_ hS hA
  refine sq (rg (a1 rfl (on (rt_ ?_))))
  cases hr21
  intro a w hS hA
  refine ret1 hA rfl rfl ?_
  exact ⟨rfl, hS.ext⟩

theorem w159 {M : Prop} {W : World} {H : Hp} (hH : H.le (hp W)) {ad_s_0 : Option Addr} {cap_s_0 : Nat} {s_0 : List UInt8} (h_s_0 : Sl (Flat encC) 1 H ad_s_0 cap_s_0 s_0) {fv_f_1 : Value} {f_1 : Int → Option Bool} (h_f_1 : FnV M Tryz.prog H fv_f_1 (SF1 (Vi .u8) Value.bool f_1)) {r : Bool} (hr : m159 s_0 f_1 = some r) : Calls Tryz.prog 159 [.slice ad_s_0 s_0.length cap_s_0, fv_f_1].toArray W (RetS M W (.bool r)) := by
 have := h_s_0.len
 have hh_f_1 := h_f_1
 obtain ⟨f_f_1, fi_f_1, ca_f_1, rfl, _, _⟩ := h_f_1
 unfold m159 at hr
 refine enterG (M := M) Tryz.func159 rfl Tryz.ntmps159 rfl hH ?_
 refine sq (rg (a1 rfl (on (sq (rg (m1 rfl (m1 rfl ?_)))))))
 obtain ⟨r1, hx2, hr3⟩ := bd_some hr
 refine clS C200 rfl rfl rfl rfl (fun w H hH le => w200 hH (h_s_0.mono (Flat.mono _) (le.at 0 rfl)) (f_1 := f_1) (hh_f_1.mono (le.at 0 rfl)) hx2) (geI rfl rfl rfl (a1 rfl (on (rt_ ?_))))
 cases hr3
 intro a w hS hA
 refine ret1 hA rfl rfl ?_
 exact ⟨rfl, hS.ext⟩

theorem w125 {M : Prop} {W : World} {H : Hp} (hH : H.le (hp W)) {ad_l_0 : Option Addr} {cap_l_0 : Nat} {l_0 : List UInt8} (h_l_0 : Sl (Flat encC) 1 H ad_l_0 cap_l_0 l_0) {fv_right : Value} {right : Int → Option Bool} (h_right : FnV M Tryz.prog H fv_right (SF1 (Vi .u8) Value.bool right)) {r : Bool} (hr : m125 l_0 right = some r) : Calls Tryz.prog 125 [.slice ad_l_0 l_0.length cap_l_0, fv_right].toArray W (RetS M W (.bool r)) := by
 have := h_l_0.len
 have hh_right := h_right
 obtain ⟨f_right, fi_right, ca_right, rfl, _, _⟩ := h_right
 unfold m125 at hr
 refine enterG (M := M) Tryz.func125 rfl Tryz.ntmps125 rfl hH ?_
 refine sq (rg (bI (cs := [.func (.func f_right) fi_right.toArray ca_right.toArray]) rfl rfl rfl fun q1 K2 hK3 => (a1 rfl (on (sq (rg (m1 rfl (fn rfl rfl rfl ?_))))))))
 obtain ⟨r5, hx6, hr7⟩ := bd_some hr
 refine clS (v := .bool r5) C159 rfl rfl rfl rfl (fun w H hH le => by
   have hf4 : FnV M Tryz.prog H (.func (.func 160) [].toArray [.pointer (some q1)].toArray) (SF1 (Vi .u8) Value.bool (fun x0_ => m160 x0_ right)) := ⟨160, [], [.pointer (some q1)], rfl, C160, fun w_ K_ args_ v_ hK hw hs => by obtain ⟨u0_, x0_, r_, rfl, h0_, hx, rfl⟩ := hs; cases h0_; exact w160 (H := K_) hw  x0_ (f0_ := right) (hK3.mono ((le.at 0 rfl).trans hK)) (hh_right.mono ((le.at 1 rfl).trans hK)) hx⟩
   exact w159 hH (h_l_0.mono (Flat.mono _) (le.at 1 rfl)) (f_1 := (fun x0_ => m160 x0_ right)) hf4 hx6) ?_
 refine nt rfl rfl (a1 rfl (on (rt_ ?_)))
 cases hr7
 intro a w hS hA
 refine ret1 hA rfl rfl ?_
 exact ⟨rfl, hS.ext⟩

theorem w126 {M : Prop} {W : World} (c_0 : Int) {r : Bool} (hr : m126 c_0 = some r) : Calls Tryz.prog 126 [.int .u8 c_0].toArray W (RetS M W (.bool r)) := by
 unfold m126 at hr
 refine enterG (M := M) Tryz.func126 rfl Tryz.ntmps126 rfl (Hp.le.refl _) ?_
 refine sq (rg (a1 rfl (on (sq ?_))))
 obtain ⟨t4, hx5, hr6⟩ := bd_some hr
 refine jn (fun a w => St M W (hp W) [(hp W)] [] w ∧ Has [] 9 a [(2, .bool t4)]) ?_ ?_
 ·refine rg (m1 rfl (leI rfl rfl rfl (m1 rfl ?_)))
  by_cases hb7 : (32 : Int) ≤ c_0
  ·have hr8 := if_p hb7 hx5
   refine gt hb7 rfl (m1 rfl (gt hb7 rfl (leI rfl rfl rfl (pt hb7 rfl rfl (a1 rfl (on ?_))))))
   cases hr8
   exact cu ⟨rfl, tv⟩
  ·have hr9 := if_n hb7 hx5
   refine gf hb7 rfl (gf hb7 rfl (pf hb7 rfl rfl (a1 rfl (on ?_))))
   cases hr9
   exact cu ⟨rfl, tv⟩
 ·rintro a w ⟨hS, hA⟩
  refine TG.ap ?_ hS hA
  refine rt_ ?_
  cases hr6
  intro a w hS hA
  refine ret1 hA rfl rfl ?_
  exact ⟨rfl, hS.ext⟩

theorem w84 {M : Prop} {W : World} (s_0 : Bytes) {r : Bool} (hr : m84 s_0 = some r) : Calls Tryz.prog 84 [.string (bs s_0)].toArray W (RetS M W (.bool r)) := by
 unfold m84 at hr
 refine enterG (M := M) Tryz.func84 rfl Tryz.ntmps84 rfl (Hp.le.refl _) ?_
 refine sq (rg (a1 rfl (on (sq ?_))))
 obtain ⟨t17, hx18, hr19⟩ := bd_some hr
 refine jn (fun a w => St M W (hp W) [(hp W)] [] w ∧ Has [] 11 a [(2, .bool t17)]) ?_ ?_
 ·refine rg (m1 rfl (lnS U9 rfl rfl ?_))
  obtain ⟨r20, hx21, hr22⟩ := bd_some hx18
  refine clS C44 rfl rfl rfl rfl (fun w H hH le => w44 (s_0.length : Int) 1 200 hx21) (m1 rfl ?_)
  rcases Bool.eq_false_or_eq_true (r20) with hb23 | hb23
  ·have hr24 := if_p hb23 hr22
   refine gN rfl rfl (hb23) (m1 rfl (gN rfl rfl (hb23) ?_))
   obtain ⟨hk29, hr30⟩ := chk_some hr24
   refine cvB U9 U147 U5 rfl rfl hk29 fun ad25 cap26 K27 hl28 => ?_
   have := hl28.len
   refine gN rfl rfl (hb23) ?_
   obtain ⟨r32, hx33, hr34⟩ := bd_some hr30
   refine clS (v := .bool r32) C125 rfl rfl rfl rfl (fun w H hH le => by
     have hf31 : FnV M Tryz.prog H (.func (.func 126) [].toArray [].toArray) (SF1 (Vi .u8) Value.bool (m126)) := ⟨126, [], [], rfl, C126, fun w_ K_ args_ v_ hK hw hs => by obtain ⟨u0_, x0_, r_, rfl, h0_, hx, rfl⟩ := hs; cases h0_; exact w126  x0_  hx⟩
     exact w125 hH (hl28.mono (Flat.mono _) (le.at 0 rfl)) (right := (m126)) hf31 hx33) ?_
   refine pT rfl rfl (hb23) rfl (a1 rfl (on ?_))
   cases hr34
   intro a w hS hA
   exact ⟨hS.selH [1] rfl, hA.cut ⟨rfl, tv⟩⟩
  ·have hr35 := if_f hb23 hr22
   refine gF rfl rfl (hb23) rfl (gF rfl rfl (hb23) rfl (gF rfl rfl (hb23) rfl (pF rfl rfl (hb23) rfl (a1 rfl (on ?_)))))
   cases hr35
   exact cu ⟨rfl, tv⟩
 ·rintro a w ⟨hS, hA⟩
  refine TG.ap ?_ hS hA
  refine rt_ ?_
  cases hr19
  intro a w hS hA
  refine ret1 hA rfl rfl ?_
  exact ⟨rfl, hS.ext⟩

theorem w123 {M : Prop} {W : World} {cs_p_0 : List Value} (p_0 : Paragraph) (h_p_0 : (Flat encParagraph) (hp W) cs_p_0 p_0) {r : Bool} (hr : m123 p_0 = some r) : Calls Tryz.prog 123 [.agg cs_p_0.toArray].toArray W (RetS M W (.bool r)) := by
 obtain rfl := h_p_0
 unfold m123 at hr
 refine enterG (M := M) Tryz.func123 rfl Tryz.ntmps123 rfl (Hp.le.refl _) ?_
 refine sq (rg (bI (cs := [.int .i64 p_0.anchor, .string (bs p_0.text)]) rfl rfl rfl fun q1 K2 hK3 => (a1 rfl (on (sq ?_)))))
 obtain ⟨t13, hx14, hr15⟩ := bd_some hr
 refine jn (fun a w => St M W (hp W) [K2, (hp W)] [] w ∧ Has [] 11 a [(2, .bool t13)]) ?_ ?_
 ·refine rg (fb 0 U52 rfl rfl rfl rfl Z3 (ld G3 rfl rfl ((sS 0 rfl hK3).take 1) rfl ?_))
  obtain ⟨r16, hx17, hr18⟩ := bd_some hx14
  refine clS C83 rfl rfl rfl rfl (fun w H hH le => w83 p_0.anchor hx17) (m1 rfl ?_)
  rcases Bool.eq_false_or_eq_true (r16) with hb19 | hb19
  ·have hr20 := if_p hb19 hr18
   refine gN rfl rfl (hb19) (fb 1 U52 rfl rfl rfl rfl Z9 (gN rfl rfl (hb19) (ld G9 rfl rfl ((sS 0 rfl hK3).drop 1) rfl (gN rfl rfl (hb19) ?_))))
   obtain ⟨r21, hx22, hr23⟩ := bd_some hr20
   refine clS C84 rfl rfl rfl rfl (fun w H hH le => w84 p_0.text hx22) (pT rfl rfl (hb19) rfl (a1 rfl (on ?_)))
   cases hr23
   exact cu ⟨rfl, tv⟩
  ·have hr24 := if_f hb19 hr18
   refine gF rfl rfl (hb19) rfl (gF rfl rfl (hb19) rfl (gF rfl rfl (hb19) rfl (pF rfl rfl (hb19) rfl (a1 rfl (on ?_)))))
   cases hr24
   exact cu ⟨rfl, tv⟩
 ·rintro a w ⟨hS, hA⟩
  refine TG.ap ?_ hS hA
  refine rt_ ?_
  cases hr15
  intro a w hS hA
  refine ret1 hA rfl rfl ?_
  exact ⟨rfl, hS.ext⟩

theorem w80 {M : Prop} {W : World} {H : Hp} (hH : H.le (hp W)) {cs_v_0 : List Value} (v_0 : Volume) (h_v_0 : (RVolume) H cs_v_0 v_0) {r : Bool} (hr : m80 v_0 = some r) : Calls Tryz.prog 80 [.agg cs_v_0.toArray].toArray W (RetS M W (.bool r)) := by
 have hh_v_0 := h_v_0
 obtain ⟨ad1, cap2, rfl, hl3⟩ := h_v_0
 have := hl3.len
 unfold m80 at hr
 refine enterG (M := M) Tryz.func80 rfl Tryz.ntmps80 rfl hH ?_
 refine sq (rg (bI (cs := [.int .i64 v_0.number, .int .i64 v_0.bound, .int .i64 v_0.height, .int .i64 v_0.width, .slice ad1 v_0.parts.length cap2]) rfl rfl rfl fun q4 K5 hK6 => (a1 rfl (on (sq (sq (rg (fb 4 U42 rfl rfl rfl rfl Z40 (ld G40 rfl rfl ((sS 0 rfl hK6).drop 4) rfl (lnL U40 rfl rfl (m1 rfl ?_)))))))))))
 refine on ?_
 obtain ⟨e55, hl56, hr57⟩ := bd_some hr
 refine jn (fun a w => ∃ t58, e55 = .inl t58 ∧ St M W H [K5, H] [] w ∧ Has [] 64 a [(1, .pointer (some q4))]) ?_ ?_
 ·refine bk ?_
  refine lp hl56 (fun s59 a w => St M W H [K5, H] [] w ∧ Has [] 64 a [(1, .pointer (some q4)), (6, .slice ad1 v_0.parts.length cap2), (7, .int .i64 (v_0.parts.length : Int)), (8, .int .i64 (s59 : Int))]) ?_ ?_
  ·exact cu ⟨rfl, rfl, rfl, rfl, tv⟩
  ·rintro j s59 y62 hr60 hz61 a w ⟨hS, hA⟩
   refine TG.ap ?_ hS hA
   unfold m80_1 at hr60
   refine sq (rg (ltI rfl rfl rfl (on (sq ?_))))
   refine ci rfl (fun hc66 => ?_) (fun hc66 => ?_)
   ·have hr67 := if_p hc66 hr60
    refine sk (sq (bk (sq (rg (m1 rfl ?_)))))
    obtain ⟨x112, hx113, hr114⟩ := bd_some hr67
    obtain ⟨p115, rfl⟩ := hl3.adr hx113
    obtain ⟨cs116, hcs117, hq118, hr119⟩ := hl3.at hx113
    have hr120 := hr119
    obtain ⟨ad121, cap122, rfl, hl123⟩ := hr119
    have := hl123.len
    refine iaP U40 Z105 rfl rfl rfl rfl (lt_of hx113) (ldA G105 Z105 rfl rfl (sS 1 rfl hq118) rfl (al 1 (cs := [.int .i64 0, .slice none 0 0]) Tryz.zeroValue105 rfl rfl fun b124 => (a1 rfl (sto 1 (cs := [.int .i64 x112.day, .slice ad121 x112.paragraphs.length cap122]) Z105 rfl rfl rfl rfl rfl rfl rfl (on (sq ?_))))))
    obtain ⟨t152, hx153, hr154⟩ := bd_some hr114
    refine jn (fun a w => St M W H [K5, H] [(1, cel b124 105 [.int .i64 x112.day, .slice ad121 x112.paragraphs.length cap122])] w ∧ Has [] 64 a [(1, .pointer (some q4)), (6, .slice (some p115) v_0.parts.length cap2), (7, .int .i64 (v_0.parts.length : Int)), (8, .int .i64 (s59 : Int)), (39, .bool t152)]) ?_ ?_
    ·obtain ⟨r155, hx156, hr157⟩ := bd_some hx153
     rcases Bool.eq_false_or_eq_true (r155) with hb158 | hb158
     ·have hr159 := if_p hb158 hr157
      by_cases hb160 : v_0.bound < x112.day
      ·have hr161 := if_p hb160 hr159
       refine drG 24 mixed (by kernel_rfl) rfl (dt rfl (fb 0 U105 rfl rfl rfl rfl Z3 fin1) (dt rfl (ld G3 rfl rfl ((sO 1 rfl).take 1) rfl fin1) (dt rfl (clS C34 rfl rfl rfl rfl (fun w H hH le => w34 x112.day hx156) fin1) (dt rfl (nt rfl rfl fin1) (dt rfl (m1 rfl fin1) (dt rfl (gN rfl rfl (congrArg not (hb158)) (fb 0 U105 rfl rfl rfl rfl Z3 fin1)) (dt rfl (gN rfl rfl (congrArg not (hb158)) (ld G3 rfl rfl ((sO 1 rfl).take 1) rfl fin1)) (dt rfl (gN rfl rfl (congrArg not (hb158)) (fb 1 U42 rfl rfl rfl rfl Z3 fin1)) (dt rfl (gN rfl rfl (congrArg not (hb158)) (ld G3 rfl rfl (((sS 1 rfl hK6).drop 1).take 1) rfl fin1)) (dt rfl (gN rfl rfl (congrArg not (hb158)) (gtI rfl rfl rfl fin1)) (dt rfl (pF rfl rfl (congrArg not (hb158)) rfl fin1) ?_)))))))))))
       refine dt rfl (m1 rfl fin1) (dt rfl (gf' hb160 rfl fin1) (dt rfl (gf' hb160 rfl fin1) (dt rfl (gf' hb160 rfl fin1) (dt rfl (gU rfl rfl rfl fin1) (dt rfl (gU rfl rfl rfl fin1) (dt rfl (gU rfl rfl rfl fin1) (dt rfl (gU rfl rfl rfl fin1) (dt rfl (gU rfl rfl rfl fin1) (dt rfl (gU rfl rfl rfl fin1) (dt rfl (gU rfl rfl rfl fin1) (dt rfl (gU rfl rfl rfl fin1) ?_)))))))))))
       refine dt rfl (gU rfl rfl rfl fin1) (DF.nil fun K162 hF => (gU rfl rfl rfl (gf' hb160 rfl (pt hb160 rfl rfl (on ?_)))))
       cases hr161
       intro a w hS hA
       exact ⟨hS.selH [1, 2] rfl, hA.cut ⟨rfl, rfl, rfl, rfl, rfl, tv⟩⟩
      ·have hr163 := if_n hb160 hr159
       by_cases hb164 : 0 < (s59 : Int)
       ·have hr165 := if_p hb164 hr163
        obtain ⟨x166, hx167, hr168⟩ := bd_some hr165
        obtain ⟨cs169, hcs170, hq171, hr172⟩ := hl3.at hx167
        have hr173 := hr172
        obtain ⟨ad174, cap175, rfl, hl176⟩ := hr172
        have := hl176.len
        refine drG 24 mixed (by kernel_rfl) rfl (dt rfl (fb 0 U105 rfl rfl rfl rfl Z3 fin1) (dt rfl (ld G3 rfl rfl ((sO 1 rfl).take 1) rfl fin1) (dt rfl (clS C34 rfl rfl rfl rfl (fun w H hH le => w34 x112.day hx156) fin1) (dt rfl (nt rfl rfl fin1) (dt rfl (m1 rfl fin1) (dt rfl (gN rfl rfl (congrArg not (hb158)) (fb 0 U105 rfl rfl rfl rfl Z3 fin1)) (dt rfl (gN rfl rfl (congrArg not (hb158)) (ld G3 rfl rfl ((sO 1 rfl).take 1) rfl fin1)) (dt rfl (gN rfl rfl (congrArg not (hb158)) (fb 1 U42 rfl rfl rfl rfl Z3 fin1)) (dt rfl (gN rfl rfl (congrArg not (hb158)) (ld G3 rfl rfl (((sS 1 rfl hK6).drop 1).take 1) rfl fin1)) (dt rfl (gN rfl rfl (congrArg not (hb158)) (gtI rfl rfl rfl fin1)) (dt rfl (pF rfl rfl (congrArg not (hb158)) rfl fin1) ?_)))))))))))
        refine dt rfl (m1 rfl fin1) (dt rfl (gt' hb160 rfl (m1 rfl fin1)) (dt rfl (gt' hb160 rfl (gtI rfl rfl rfl fin1)) (dt rfl (gt' hb160 rfl (m1 rfl fin1)) (dt rfl (gt hb164 rfl (fb 0 U105 rfl rfl rfl rfl Z3 fin1)) (dt rfl (gt hb164 rfl (ld G3 rfl rfl ((sO 1 rfl).take 1) rfl fin1)) (dt rfl (gt hb164 rfl (fb 4 U42 rfl rfl rfl rfl Z40 fin1)) (dt rfl (gt hb164 rfl (ld G40 rfl rfl ((sS 1 rfl hK6).drop 4) rfl fin1)) (dt rfl (gt hb164 rfl (m1 rfl fin1)) (dt rfl (gt hb164 rfl (sbI rfl rfl rfl (by omega) fin1)) (dt rfl (gt hb164 rfl (iaP U40 Z105 rfl rfl rfl (by omega) (lt_of hx167) fin1)) (dt rfl (gt hb164 rfl (fb 0 U105 rfl rfl rfl rfl Z3 fin1)) ?_)))))))))))
        refine dt rfl (gt hb164 rfl (ld G3 rfl rfl ((sS 2 rfl hq171).take 1) rfl fin1)) (DF.nil fun K177 hF => (gt hb164 rfl (leI rfl rfl rfl (gt' hb160 rfl (pt hb164 rfl rfl (pf hb160 rfl rfl (on ?_)))))))
        cases hr168
        intro a w hS hA
        exact ⟨hS.selH [1, 2] rfl, hA.cut ⟨rfl, rfl, rfl, rfl, rfl, tv⟩⟩
       ·have hr178 := if_n hb164 hr163
        refine drG 24 mixed (by kernel_rfl) rfl (dt rfl (fb 0 U105 rfl rfl rfl rfl Z3 fin1) (dt rfl (ld G3 rfl rfl ((sO 1 rfl).take 1) rfl fin1) (dt rfl (clS C34 rfl rfl rfl rfl (fun w H hH le => w34 x112.day hx156) fin1) (dt rfl (nt rfl rfl fin1) (dt rfl (m1 rfl fin1) (dt rfl (gN rfl rfl (congrArg not (hb158)) (fb 0 U105 rfl rfl rfl rfl Z3 fin1)) (dt rfl (gN rfl rfl (congrArg not (hb158)) (ld G3 rfl rfl ((sO 1 rfl).take 1) rfl fin1)) (dt rfl (gN rfl rfl (congrArg not (hb158)) (fb 1 U42 rfl rfl rfl rfl Z3 fin1)) (dt rfl (gN rfl rfl (congrArg not (hb158)) (ld G3 rfl rfl (((sS 1 rfl hK6).drop 1).take 1) rfl fin1)) (dt rfl (gN rfl rfl (congrArg not (hb158)) (gtI rfl rfl rfl fin1)) (dt rfl (pF rfl rfl (congrArg not (hb158)) rfl fin1) ?_)))))))))))
        refine dt rfl (m1 rfl fin1) (dt rfl (gt' hb160 rfl (m1 rfl fin1)) (dt rfl (gt' hb160 rfl (gtI rfl rfl rfl fin1)) (dt rfl (gt' hb160 rfl (m1 rfl fin1)) (dt rfl (gf hb164 rfl fin1) (dt rfl (gf hb164 rfl fin1) (dt rfl (gf hb164 rfl fin1) (dt rfl (gf hb164 rfl fin1) (dt rfl (gf hb164 rfl fin1) (dt rfl (gf hb164 rfl fin1) (dt rfl (gf hb164 rfl fin1) (dt rfl (gf hb164 rfl fin1) ?_)))))))))))
        refine dt rfl (gf hb164 rfl fin1) (DF.nil fun K179 hF => (gf hb164 rfl (gt' hb160 rfl (pf hb164 rfl rfl (pf hb160 rfl rfl (on ?_))))))
        cases hr178
        intro a w hS hA
        exact ⟨hS.selH [1, 2] rfl, hA.cut ⟨rfl, rfl, rfl, rfl, rfl, tv⟩⟩
     ·have hr180 := if_f hb158 hr157
      refine drG 24 mixed (by kernel_rfl) rfl (dt rfl (fb 0 U105 rfl rfl rfl rfl Z3 fin1) (dt rfl (ld G3 rfl rfl ((sO 1 rfl).take 1) rfl fin1) (dt rfl (clS C34 rfl rfl rfl rfl (fun w H hH le => w34 x112.day hx156) fin1) (dt rfl (nt rfl rfl fin1) (dt rfl (m1 rfl fin1) (dt rfl (gF rfl rfl (congrArg not (hb158)) rfl fin1) (dt rfl (gF rfl rfl (congrArg not (hb158)) rfl fin1) (dt rfl (gF rfl rfl (congrArg not (hb158)) rfl fin1) (dt rfl (gF rfl rfl (congrArg not (hb158)) rfl fin1) (dt rfl (gF rfl rfl (congrArg not (hb158)) rfl fin1) (dt rfl (pT rfl rfl (congrArg not (hb158)) rfl fin1) ?_)))))))))))
      refine dt rfl (m1 rfl fin1) (dt rfl (gF rfl rfl rfl rfl fin1) (dt rfl (gF rfl rfl rfl rfl fin1) (dt rfl (gF rfl rfl rfl rfl fin1) (dt rfl (gU rfl rfl rfl fin1) (dt rfl (gU rfl rfl rfl fin1) (dt rfl (gU rfl rfl rfl fin1) (dt rfl (gU rfl rfl rfl fin1) (dt rfl (gU rfl rfl rfl fin1) (dt rfl (gU rfl rfl rfl fin1) (dt rfl (gU rfl rfl rfl fin1) (dt rfl (gU rfl rfl rfl fin1) ?_)))))))))))
      refine dt rfl (gU rfl rfl rfl fin1) (DF.nil fun K181 hF => (gU rfl rfl rfl (gF rfl rfl rfl rfl (pT rfl rfl rfl rfl (on ?_)))))
      cases hr180
      intro a w hS hA
      exact ⟨hS.selH [1, 2] rfl, hA.cut ⟨rfl, rfl, rfl, rfl, rfl, tv⟩⟩
    ·rintro a w ⟨hS, hA⟩
     refine TG.ap ?_ hS hA
     refine cb rfl (fun hc185 => ?_) (fun hc185 => ?_)
     ·have hr186 := if_p hc185 hr154
      refine sq (rg (a1 rfl (on (rt_ ?_))))
      cases hr186
      obtain rfl := Fin.out hz61
      cases hr57
      intro a w hS hA
      refine ret1 hA rfl rfl ?_
      exact ⟨rfl, hS.ext⟩
     ·have hr187 := if_f hc185 hr154
      refine sk (rg (adI rfl rfl rfl (by omega) (m1 rfl (on (TG.del 1 ?_)))))
      cases hr187
      intro a w hS hA
      exact ⟨_, hz61, hS, hA.cut ⟨rfl, rfl, rfl, rfl, tv⟩⟩
   ·have hr188 := if_n hc66 hr60
    refine xt rfl ?_
    cases hr188
    obtain rfl := Fin.out hz61
    intro a w hS hA
    exact ⟨_, rfl, hS, hA.cut ⟨rfl, tv⟩⟩
 ·rintro a w ⟨t58, rfl, hS, hA⟩
  refine TG.ap ?_ hS hA
  refine sq ?_
  obtain ⟨t224, hx225, hr226⟩ := bd_some hr57
  refine jn (fun a w => St M W H [K5, H] [] w ∧ Has [] 64 a [(2, .bool t224)]) ?_ ?_
  ·refine rg (fb 0 U42 rfl rfl rfl rfl Z3 (ld G3 rfl rfl ((sS 0 rfl hK6).take 1) rfl ?_))
   obtain ⟨r227, hx228, hr229⟩ := bd_some hx225
   refine clS C44 rfl rfl rfl rfl (fun w H hH le => w44 v_0.number 1 99 hx228) (m1 rfl ?_)
   rcases Bool.eq_false_or_eq_true (r227) with hb230 | hb230
   ·have hr231 := if_p hb230 hr229
    refine gN rfl rfl (hb230) (fb 1 U42 rfl rfl rfl rfl Z3 (gN rfl rfl (hb230) (ld G3 rfl rfl (((sS 0 rfl hK6).drop 1).take 1) rfl (gN rfl rfl (hb230) ?_))))
    obtain ⟨r232, hx233, hr234⟩ := bd_some hr231
    refine clS C34 rfl rfl rfl rfl (fun w H hH le => w34 v_0.bound hx233) (pT rfl rfl (hb230) rfl (m1 rfl ?_))
    rcases Bool.eq_false_or_eq_true (r232) with hb235 | hb235
    ·have hr236 := if_p hb235 hr234
     refine gN rfl rfl (hb235) (fb 2 U42 rfl rfl rfl rfl Z3 (gN rfl rfl (hb235) (ld G3 rfl rfl (((sS 0 rfl hK6).drop 2).take 1) rfl (gN rfl rfl (hb235) ?_))))
     obtain ⟨r237, hx238, hr239⟩ := bd_some hr236
     refine clS C44 rfl rfl rfl rfl (fun w H hH le => w44 v_0.height 1 60 hx238) (pT rfl rfl (hb235) rfl (m1 rfl ?_))
     rcases Bool.eq_false_or_eq_true (r237) with hb240 | hb240
     ·have hr241 := if_p hb240 hr239
      refine gN rfl rfl (hb240) (fb 3 U42 rfl rfl rfl rfl Z3 (gN rfl rfl (hb240) (ld G3 rfl rfl (((sS 0 rfl hK6).drop 3).take 1) rfl (gN rfl rfl (hb240) ?_))))
      obtain ⟨r242, hx243, hr244⟩ := bd_some hr241
      refine clS C44 rfl rfl rfl rfl (fun w H hH le => w44 v_0.width 10 80 hx243) (pT rfl rfl (hb240) rfl (m1 rfl ?_))
      rcases Bool.eq_false_or_eq_true (r242) with hb245 | hb245
      ·have hr246 := if_p hb245 hr244
       refine gN rfl rfl (hb245) (ldA G42 Z42 rfl rfl (sS 0 rfl hK6) rfl (gN rfl rfl (hb245) ?_))
       obtain ⟨r247, hx248, hr249⟩ := bd_some hr246
       refine clK C53 rfl rfl rfl rfl (fun w H hH le => w53 hH v_0 (RVolume.mono _ _ _ _ (le.at 1 rfl) hh_v_0) hx248) ?_
       rintro v_ K250 ⟨ad251, cap252, rfl, hl253⟩
       have := hl253.len
       refine gN rfl rfl (hb245) ?_
       obtain ⟨r255, hx256, hr257⟩ := bd_some hr249
       refine clS (v := .bool r255) C122 rfl rfl rfl rfl (fun w H hH le => by
         have hf254 : FnV M Tryz.prog H (.func (.func 123) [].toArray [].toArray) (SF1 (Va encParagraph) Value.bool (m123)) := ⟨123, [], [], rfl, C123, fun w_ K_ args_ v_ hK hw hs => by obtain ⟨u0_, x0_, r_, rfl, h0_, hx, rfl⟩ := hs; cases h0_; exact w123  x0_ rfl  hx⟩
         exact w122 hH (hl253.mono (Flat.mono _) (le.at 0 rfl)) (right := (m123)) hf254 hx256) ?_
       refine pT rfl rfl (hb245) rfl (a1 rfl (on ?_))
       cases hr257
       intro a w hS hA
       exact ⟨hS.selH [1, 2] rfl, hA.cut ⟨rfl, tv⟩⟩
      ·have hr258 := if_f hb245 hr244
       refine gF rfl rfl (hb245) rfl (gF rfl rfl (hb245) rfl (gF rfl rfl (hb245) rfl (pF rfl rfl (hb245) rfl (a1 rfl (on ?_)))))
       cases hr258
       exact cu ⟨rfl, tv⟩
     ·have hr259 := if_f hb240 hr239
      refine gF rfl rfl (hb240) rfl (gF rfl rfl (hb240) rfl (gF rfl rfl (hb240) rfl (pF rfl rfl (hb240) rfl (m1 rfl (gF rfl rfl rfl rfl (gF rfl rfl rfl rfl (gF rfl rfl rfl rfl (pF rfl rfl rfl rfl (a1 rfl (on ?_))))))))))
      cases hr259
      exact cu ⟨rfl, tv⟩
    ·have hr260 := if_f hb235 hr234
     refine gF rfl rfl (hb235) rfl (gF rfl rfl (hb235) rfl (gF rfl rfl (hb235) rfl (pF rfl rfl (hb235) rfl (m1 rfl (gF rfl rfl rfl rfl (gF rfl rfl rfl rfl (gF rfl rfl rfl rfl (pF rfl rfl rfl rfl (m1 rfl (gF rfl rfl rfl rfl (gF rfl rfl rfl rfl ?_)))))))))))
     refine gF rfl rfl rfl rfl (pF rfl rfl rfl rfl (a1 rfl (on ?_)))
     cases hr260
     exact cu ⟨rfl, tv⟩
   ·have hr261 := if_f hb230 hr229
    refine gF rfl rfl (hb230) rfl (gF rfl rfl (hb230) rfl (gF rfl rfl (hb230) rfl (pF rfl rfl (hb230) rfl (m1 rfl (gF rfl rfl rfl rfl (gF rfl rfl rfl rfl (gF rfl rfl rfl rfl (pF rfl rfl rfl rfl (m1 rfl (gF rfl rfl rfl rfl (gF rfl rfl rfl rfl ?_)))))))))))
    refine gF rfl rfl rfl rfl (pF rfl rfl rfl rfl (m1 rfl (gF rfl rfl rfl rfl (gF rfl rfl rfl rfl (gF rfl rfl rfl rfl (pF rfl rfl rfl rfl (a1 rfl (on ?_))))))))
    cases hr261
    exact cu ⟨rfl, tv⟩
  ·rintro a w ⟨hS, hA⟩
   refine TG.ap ?_ hS hA
   refine rt_ ?_
   cases hr226
   intro a w hS hA
   refine ret1 hA rfl rfl ?_
   exact ⟨rfl, hS.ext⟩

theorem w50 {M : Prop} {W : World} {H : Hp} (hH : H.le (hp W)) {cs_v_0 : List Value} (v_0 : Volume) (h_v_0 : (RVolume) H cs_v_0 v_0) {r : Int} (hr : m50 v_0 = some r) : Calls Tryz.prog 50 [.agg cs_v_0.toArray].toArray W (RetS M W (.int .i64 r)) := by
 have hh_v_0 := h_v_0
 obtain ⟨ad1, cap2, rfl, hl3⟩ := h_v_0
 have := hl3.len
 unfold m50 at hr
 refine enterG (M := M) Tryz.func50 rfl Tryz.ntmps50 rfl hH ?_
 refine sq (rg (bI (cs := [.int .i64 v_0.number, .int .i64 v_0.bound, .int .i64 v_0.height, .int .i64 v_0.width, .slice ad1 v_0.parts.length cap2]) rfl rfl rfl fun q4 K5 hK6 => (a1 rfl (on (sq (rg (ldA G42 Z42 rfl rfl (sS 0 rfl hK6) rfl ?_)))))))
 obtain ⟨r7, hx8, hr9⟩ := bd_some hr
 refine clK C53 rfl rfl rfl rfl (fun w H hH le => w53 hH v_0 (RVolume.mono _ _ _ _ (le.at 1 rfl) hh_v_0) hx8) ?_
 rintro v_ K10 ⟨ad11, cap12, rfl, hl13⟩
 have := hl13.len
 refine a1 rfl (on (sq (bk (sq ?_))))
 obtain ⟨t30, hx31, hr32⟩ := bd_some hr9
 refine jn (fun a w => St M W H [K10, K5, H] [] w ∧ Has [] 38 a [(1, .pointer (some q4)), (3, .slice ad11 r7.length cap12), (9, .bool t30)]) ?_ ?_
 ·refine rg (fb 4 U42 rfl rfl rfl rfl Z40 (ld G40 rfl rfl ((sS 1 rfl hK6).drop 4) rfl (lnL U40 rfl rfl (gtI rfl rfl rfl (m1 rfl ?_)))))
  by_cases hb33 : 6 < (v_0.parts.length : Int)
  ·have hr34 := if_p hb33 hx31
   refine gf' hb33 rfl (gf' hb33 rfl (gf' hb33 rfl (pt hb33 rfl rfl (a1 rfl (on ?_)))))
   cases hr34
   exact cu ⟨rfl, rfl, rfl, tv⟩
  ·have hr35 := if_n hb33 hx31
   refine gt' hb33 rfl (m1 rfl (gt' hb33 rfl (lnL U36 rfl rfl (gt' hb33 rfl (gtI rfl rfl rfl (pf hb33 rfl rfl (a1 rfl (on ?_))))))))
   cases hr35
   exact cu ⟨rfl, rfl, rfl, tv⟩
 ·rintro a w ⟨hS, hA⟩
  refine TG.ap ?_ hS hA
  refine cb rfl (fun hc45 => ?_) (fun hc45 => ?_)
  ·have hr46 := if_p hc45 hr32
   refine sq (rg (a1 rfl (on (rt_ ?_))))
   cases hr46
   intro a w hS hA
   refine ret1 hA rfl rfl ?_
   exact ⟨rfl, hS.ext⟩
  ·have hr47 := if_f hc45 hr32
   refine sq (rg (ldA G42 Z42 rfl rfl (sS 1 rfl hK6) rfl ?_))
   obtain ⟨r48, hx49, hr50⟩ := bd_some hr47
   refine clS C80 rfl rfl rfl rfl (fun w H hH le => w80 hH v_0 (RVolume.mono _ _ _ _ (le.at 2 rfl) hh_v_0) hx49) (nt rfl rfl (a1 rfl (on ?_)))
   refine cb rfl (fun hc54 => ?_) (fun hc54 => ?_)
   ·replace hc54 := nbt hc54
    have hr55 := if_f hc54 hr50
    refine sq (rg (a1 rfl (on (rt_ ?_))))
    cases hr55
    intro a w hS hA
    refine ret1 hA rfl rfl ?_
    exact ⟨rfl, hS.ext⟩
   ·replace hc54 := nbf hc54
    have hr56 := if_p hc54 hr50
    refine sk (sq (rg (mkM 1 keI Value.bool rfl fun b57 => (a1 rfl (on (sq (sq (rg (m1 rfl (lnL U36 rfl rfl (m1 rfl ?_)))))))))))
    refine on ?_
    obtain ⟨e94, hl95, hr96⟩ := bd_some hr56
    refine jn (fun a w => ∃ t97, e94 = .inl t97 ∧ St M W H [K10, K5, H] [(1, Own.map' keI Value.bool b57 t97)] w ∧ Has [] 38 a []) ?_ ?_
    ·refine bk ?_
     refine lp hl95 (fun s98 a w => St M W H [K10, K5, H] [(1, Own.map' keI Value.bool b57 s98.2)] w ∧ Has [] 38 a [(4, .map (some b57)), (24, .slice ad11 r7.length cap12), (25, .int .i64 (r7.length : Int)), (26, .int .i64 (s98.1 : Int))]) ?_ ?_
     ·exact cu ⟨rfl, rfl, rfl, rfl, tv⟩
     ·rintro j s98 y101 hr99 hz100 a w ⟨hS, hA⟩
      refine TG.ap ?_ hS hA
      unfold m50_1 at hr99
      refine sq (rg (ltI rfl rfl rfl (on (sq ?_))))
      refine ci rfl (fun hc105 => ?_) (fun hc105 => ?_)
      ·have hr106 := if_p hc105 hr99
       refine sk (sq (bk (sq (rg ?_))))
       obtain ⟨x121, hx122, hr123⟩ := bd_some hr106
       obtain ⟨p124, rfl⟩ := hl13.adr hx122
       obtain ⟨cs125, hcs126, hq127, hr128⟩ := hl13.at hx122
       obtain rfl := hr128
       refine iaP U36 Z52 rfl rfl rfl rfl (lt_of hx122) (ldA G52 Z52 rfl rfl (sS 0 rfl hq127) rfl (va (cs := [.int .i64 x121.anchor, .string (bs x121.text)]) Tryz.zeroValue52 Z52 rfl rfl rfl rfl rfl rfl rfl rfl fun q129 K130 hK131 => (on (sq (sq (rg (m1 rfl (fb 0 U52 rfl rfl rfl rfl Z3 (ld G3 rfl rfl ((sS 0 rfl hK131).take 1) rfl (lk1 (ke := keI) (enc := Value.bool) x121.anchor (z0 := false) U158 U3 Tryz.zeroValue4 rfl rfl rfl rfl (mO 1 rfl) (on ?_)))))))))))
       refine cb rfl (fun hc135 => ?_) (fun hc135 => ?_)
       ·have hr136 := if_p hc135 hr123
        refine sq (rg (a1 rfl (on (rt_ ?_))))
        cases hr136
        obtain rfl := Fin.out hz100
        cases hr96
        intro a w hS hA
        refine ret1 hA rfl rfl ?_
        exact ⟨rfl, hS.ext⟩
       ·have hr137 := if_f hc135 hr123
        refine sk (rg (m1 rfl (fb 0 U52 rfl rfl rfl rfl Z3 (ld G3 rfl rfl ((sS 0 rfl hK131).take 1) rfl (mpU 1 (ke := keI) (enc := Value.bool) x121.anchor true U158 U3 rfl rfl rfl rfl (on (rg (adI rfl rfl rfl (by omega) (m1 rfl (on ?_))))))))))
        cases hr137
        intro a w hS hA
        exact ⟨_, hz100, hS.selH [1, 2, 3] rfl, hA.cut ⟨rfl, rfl, rfl, rfl, tv⟩⟩
      ·have hr138 := if_n hc105 hr99
       refine xt rfl ?_
       cases hr138
       obtain rfl := Fin.out hz100
       intro a w hS hA
       exact ⟨_, rfl, hS, hA.cut tv⟩
    ·rintro a w ⟨t97, rfl, hS, hA⟩
     refine TG.ap ?_ hS hA
     refine sq (rg (a1 rfl (on (rt_ ?_))))
     cases hr96
     intro a w hS hA
     refine ret1 hA rfl rfl ?_
     exact ⟨rfl, hS.ext⟩

theorem w82 {M : Prop} {W : World} {H : Hp} (hH : H.le (hp W)) {cs_x_0 : List Value} (x_0 : Erratum) (h_x_0 : (Flat encErratum) H cs_x_0 x_0) {q_f0_ : Addr} {fv_f0_ : Value} {f0_ : Erratum → Option Bool} (hc_f0_ : CellsAt H q_f0_ [fv_f0_]) (h_f0_ : FnV M Tryz.prog H fv_f0_ (SF1 (Va encErratum) Value.bool f0_)) {r : Bool} (hr : m82 x_0 f0_ = some r) : Calls Tryz.prog 82 [.agg cs_x_0.toArray, .pointer (some q_f0_)].toArray W (RetS M W (.bool r)) := by
 obtain rfl := h_x_0
 have hh_f0_ := h_f0_
 obtain ⟨f_f0_, fi_f0_, ca_f0_, rfl, _, _⟩ := h_f0_
 unfold m82 at hr
 refine enterG (M := M) Tryz.func82 rfl Tryz.ntmps82 rfl hH ?_
 refine sq (rg (bI (cs := [.int .i64 x_0.number, .int .i64 x_0.day, .int .u8 x_0.kind, .int .i64 x_0.anchor, .string (bs x_0.text), .int .i64 x_0.new_]) rfl rfl rfl fun q1 K2 hK3 => (a1 rfl (on (sq (rg (ld G157 rfl rfl (sS 1 rfl hc_f0_) rfl (ldA G116 Z116 rfl rfl (sS 0 rfl hK3) rfl ?_))))))))
 obtain ⟨r4, hx5, hr6⟩ := bd_some hr
 refine clV (v := .bool r4) hh_f0_ 1 rfl rfl rfl rfl (fun H le => ⟨_, x_0, r4, rfl, rfl, hx5, rfl⟩) (nt rfl rfl (a1 rfl (on (rt_ ?_))))
 cases hr6
 intro a w hS hA
 refine ret1 hA rfl rfl ?_
 exact ⟨rfl, hS.ext⟩

theorem w124 {M : Prop} {W : World} {H : Hp} (hH : H.le (hp W)) {ad_s_0 : Option Addr} {cap_s_0 : Nat} {s_0 : List Erratum} (h_s_0 : Sl (Flat encErratum) 6 H ad_s_0 cap_s_0 s_0) {fv_f_1 : Value} {f_1 : Erratum → Option Bool} (h_f_1 : FnV M Tryz.prog H fv_f_1 (SF1 (Va encErratum) Value.bool f_1)) {r : Int} (hr : m124 s_0 f_1 = some r) : Calls Tryz.prog 124 [.slice ad_s_0 s_0.length cap_s_0, fv_f_1].toArray W (RetS M W (.int .i64 r)) := by
 have := h_s_0.len
 have hh_f_1 := h_f_1
 obtain ⟨f_f_1, fi_f_1, ca_f_1, rfl, _, _⟩ := h_f_1
 unfold m124 at hr
 refine enterG (M := M) Tryz.func124 rfl Tryz.ntmps124 rfl hH ?_
 refine sq (rg (a1 rfl (on (sq (sq (rg (m1 rfl (lnL U44 rfl rfl (m1 rfl (on ?_))))))))))
 obtain ⟨e19, hl20, hr21⟩ := bd_some hr
 refine jn (fun a w => ∃ t22, e19 = .inl t22 ∧ St M W H [H] [] w ∧ Has [] 19 a []) ?_ ?_
 ·refine bk ?_
  refine lp hl20 (fun s23 a w => St M W H [H] [] w ∧ Has [] 19 a [(0, .slice ad_s_0 s_0.length cap_s_0), (1, .func (.func f_f_1) fi_f_1.toArray ca_f_1.toArray), (7, .int .i64 (s_0.length : Int)), (8, .int .i64 (s23 : Int))]) ?_ ?_
  ·exact cu ⟨rfl, rfl, rfl, rfl, tv⟩
  ·rintro j s23 y26 hr24 hz25 a w ⟨hS, hA⟩
   refine TG.ap ?_ hS hA
   unfold m124_1 at hr24
   refine sq (rg (ltI rfl rfl rfl (on (sq ?_))))
   refine ci rfl (fun hc30 => ?_) (fun hc30 => ?_)
   ·have hr31 := if_p hc30 hr24
    refine sk (sq (bk (sq (rg (m1 rfl (a1 rfl (on (sq (rg (m1 rfl (m1 rfl ?_)))))))))))
    refine m1 rfl ?_
    obtain ⟨x46, hx47, hr48⟩ := bd_some hr31
    obtain ⟨p49, rfl⟩ := h_s_0.adr hx47
    obtain ⟨cs50, hcs51, hq52, hr53⟩ := h_s_0.at hx47
    obtain rfl := hr53
    refine iaP U44 Z116 rfl rfl rfl rfl (lt_of hx47) (ldA G116 Z116 rfl rfl (sS 0 rfl hq52) rfl ?_)
    obtain ⟨r54, hx55, hr56⟩ := bd_some hr48
    refine clV (v := .bool r54) hh_f_1 0 rfl rfl rfl rfl (fun H le => ⟨_, x46, r54, rfl, rfl, hx55, rfl⟩) (on ?_)
    refine cb rfl (fun hc60 => ?_) (fun hc60 => ?_)
    ·have hr61 := if_p hc60 hr56
     refine sq (rg (m1 rfl (a1 rfl (on (rt_ ?_)))))
     cases hr61
     obtain rfl := Fin.out hz25
     cases hr21
     intro a w hS hA
     refine ret1 hA rfl rfl ?_
     exact ⟨rfl, hS.ext⟩
    ·have hr62 := if_f hc60 hr56
     refine sk (rg (adI rfl rfl rfl (by omega) (m1 rfl (on ?_))))
     cases hr62
     intro a w hS hA
     exact ⟨_, hz25, hS, hA.cut ⟨rfl, rfl, rfl, rfl, tv⟩⟩
   ·have hr63 := if_n hc30 hr24
    refine xt rfl ?_
    cases hr63
    obtain rfl := Fin.out hz25
    intro a w hS hA
    exact ⟨_, rfl, hS, hA.cut tv⟩
 ·rintro a w ⟨t22, rfl, hS, hA⟩
  refine TG.ap ?_ hS hA
  refine sq (rg (a1 rfl (on (rt_ ?_))))
  cases hr21
  intro a w hS hA
  refine ret1 hA rfl rfl ?_
  exact ⟨rfl, hS.ext⟩

theorem w81 {M : Prop} {W : World} {H : Hp} (hH : H.le (hp W)) {ad_s_0 : Option Addr} {cap_s_0 : Nat} {s_0 : List Erratum} (h_s_0 : Sl (Flat encErratum) 6 H ad_s_0 cap_s_0 s_0) {fv_f_1 : Value} {f_1 : Erratum → Option Bool} (h_f_1 : FnV M Tryz.prog H fv_f_1 (SF1 (Va encErratum) Value.bool f_1)) {r : Bool} (hr : m81 s_0 f_1 = some r) : Calls Tryz.prog 81 [.slice ad_s_0 s_0.length cap_s_0, fv_f_1].toArray W (RetS M W (.bool r)) := by
 have := h_s_0.len
 have hh_f_1 := h_f_1
 obtain ⟨f_f_1, fi_f_1, ca_f_1, rfl, _, _⟩ := h_f_1
 unfold m81 at hr
 refine enterG (M := M) Tryz.func81 rfl Tryz.ntmps81 rfl hH ?_
 refine sq (rg (a1 rfl (on (sq (rg (m1 rfl (m1 rfl ?_)))))))
 obtain ⟨r1, hx2, hr3⟩ := bd_some hr
 refine clS C124 rfl rfl rfl rfl (fun w H hH le => w124 hH (h_s_0.mono (Flat.mono _) (le.at 0 rfl)) (f_1 := f_1) (hh_f_1.mono (le.at 0 rfl)) hx2) (geI rfl rfl rfl (a1 rfl (on (rt_ ?_))))
 cases hr3
 intro a w hS hA
 refine ret1 hA rfl rfl ?_
 exact ⟨rfl, hS.ext⟩

theorem w51 {M : Prop} {W : World} {H : Hp} (hH : H.le (hp W)) {ad_l_0 : Option Addr} {cap_l_0 : Nat} {l_0 : List Erratum} (h_l_0 : Sl (Flat encErratum) 6 H ad_l_0 cap_l_0 l_0) {fv_right : Value} {right : Erratum → Option Bool} (h_right : FnV M Tryz.prog H fv_right (SF1 (Va encErratum) Value.bool right)) {r : Bool} (hr : m51 l_0 right = some r) : Calls Tryz.prog 51 [.slice ad_l_0 l_0.length cap_l_0, fv_right].toArray W (RetS M W (.bool r)) := by
 have := h_l_0.len
 have hh_right := h_right
 obtain ⟨f_right, fi_right, ca_right, rfl, _, _⟩ := h_right
 unfold m51 at hr
 refine enterG (M := M) Tryz.func51 rfl Tryz.ntmps51 rfl hH ?_
 refine sq (rg (bI (cs := [.func (.func f_right) fi_right.toArray ca_right.toArray]) rfl rfl rfl fun q1 K2 hK3 => (a1 rfl (on (sq (rg (m1 rfl (fn rfl rfl rfl ?_))))))))
 obtain ⟨r5, hx6, hr7⟩ := bd_some hr
 refine clS (v := .bool r5) C81 rfl rfl rfl rfl (fun w H hH le => by
   have hf4 : FnV M Tryz.prog H (.func (.func 82) [].toArray [.pointer (some q1)].toArray) (SF1 (Va encErratum) Value.bool (fun x0_ => m82 x0_ right)) := ⟨82, [], [.pointer (some q1)], rfl, C82, fun w_ K_ args_ v_ hK hw hs => by obtain ⟨u0_, x0_, r_, rfl, h0_, hx, rfl⟩ := hs; cases h0_; exact w82 (H := K_) hw  x0_ rfl (f0_ := right) (hK3.mono ((le.at 0 rfl).trans hK)) (hh_right.mono ((le.at 1 rfl).trans hK)) hx⟩
   exact w81 hH (h_l_0.mono (Flat.mono _) (le.at 1 rfl)) (f_1 := (fun x0_ => m82 x0_ right)) hf4 hx6) ?_
 refine nt rfl rfl (a1 rfl (on (rt_ ?_)))
 cases hr7
 intro a w hS hA
 refine ret1 hA rfl rfl ?_
 exact ⟨rfl, hS.ext⟩

theorem w52 {M : Prop} {W : World} {cs_x_0 : List Value} (x_0 : Erratum) (h_x_0 : (Flat encErratum) (hp W) cs_x_0 x_0) {r : Bool} (hr : m52 x_0 = some r) : Calls Tryz.prog 52 [.agg cs_x_0.toArray].toArray W (RetS M W (.bool r)) := by
 obtain rfl := h_x_0
 unfold m52 at hr
 refine enterG (M := M) Tryz.func52 rfl Tryz.ntmps52 rfl (Hp.le.refl _) ?_
 refine sq (rg (bI (cs := [.int .i64 x_0.number, .int .i64 x_0.day, .int .u8 x_0.kind, .int .i64 x_0.anchor, .string (bs x_0.text), .int .i64 x_0.new_]) rfl rfl rfl fun q1 K2 hK3 => (a1 rfl (on (sq (sq ?_))))))
 obtain ⟨t19, hx20, hr21⟩ := bd_some hr
 refine jn (fun a w => St M W (hp W) [K2, (hp W)] [] w ∧ Has [] 51 a [(1, .pointer (some q1)), (18, .bool t19)]) ?_ ?_
 ·refine rg (fb 0 U116 rfl rfl rfl rfl Z3 (ld G3 rfl rfl ((sS 0 rfl hK3).take 1) rfl ?_))
  obtain ⟨r22, hx23, hr24⟩ := bd_some hx20
  refine clS C44 rfl rfl rfl rfl (fun w H hH le => w44 x_0.number 1 999 hx23) (nt rfl rfl (m1 rfl ?_))
  rcases Bool.eq_false_or_eq_true (r22) with hb25 | hb25
  ·have hr26 := if_p hb25 hr24
   refine gN rfl rfl (congrArg not (hb25)) (fb 1 U116 rfl rfl rfl rfl Z3 (gN rfl rfl (congrArg not (hb25)) (ld G3 rfl rfl (((sS 0 rfl hK3).drop 1).take 1) rfl (gN rfl rfl (congrArg not (hb25)) ?_))))
   obtain ⟨r27, hx28, hr29⟩ := bd_some hr26
   refine clS C34 rfl rfl rfl rfl (fun w H hH le => w34 x_0.day hx28) (gN rfl rfl (congrArg not (hb25)) (nt rfl rfl (pF rfl rfl (congrArg not (hb25)) rfl (m1 rfl ?_))))
   rcases Bool.eq_false_or_eq_true (r27) with hb30 | hb30
   ·have hr31 := if_p hb30 hr29
    refine gN rfl rfl (congrArg not (hb30)) (fb 3 U116 rfl rfl rfl rfl Z3 (gN rfl rfl (congrArg not (hb30)) (ld G3 rfl rfl (((sS 0 rfl hK3).drop 3).take 1) rfl (gN rfl rfl (congrArg not (hb30)) ?_))))
    obtain ⟨r32, hx33, hr34⟩ := bd_some hr31
    refine clS C83 rfl rfl rfl rfl (fun w H hH le => w83 x_0.anchor hx33) (gN rfl rfl (congrArg not (hb30)) (nt rfl rfl (pF rfl rfl (congrArg not (hb30)) rfl (on ?_))))
    cases hr34
    exact cu ⟨rfl, rfl, tv⟩
   ·have hr35 := if_f hb30 hr29
    refine gF rfl rfl (congrArg not (hb30)) rfl (gF rfl rfl (congrArg not (hb30)) rfl (gF rfl rfl (congrArg not (hb30)) rfl (gF rfl rfl (congrArg not (hb30)) rfl (pT rfl rfl (congrArg not (hb30)) rfl (on ?_)))))
    cases hr35
    exact cu ⟨rfl, rfl, tv⟩
  ·have hr36 := if_f hb25 hr24
   refine gF rfl rfl (congrArg not (hb25)) rfl (gF rfl rfl (congrArg not (hb25)) rfl (gF rfl rfl (congrArg not (hb25)) rfl (gF rfl rfl (congrArg not (hb25)) rfl (pT rfl rfl (congrArg not (hb25)) rfl (m1 rfl (gF rfl rfl rfl rfl (gF rfl rfl rfl rfl (gF rfl rfl rfl rfl (gF rfl rfl rfl rfl (pT rfl rfl rfl rfl (on ?_)))))))))))
   cases hr36
   exact cu ⟨rfl, rfl, tv⟩
 ·rintro a w ⟨hS, hA⟩
  refine TG.ap ?_ hS hA
  refine cb rfl (fun hc40 => ?_) (fun hc40 => ?_)
  ·have hr41 := if_p hc40 hr21
   refine sq (rg (a1 rfl (on (rt_ ?_))))
   cases hr41
   intro a w hS hA
   refine ret1 hA rfl rfl ?_
   exact ⟨rfl, hS.ext⟩
  ·have hr42 := if_f hc40 hr21
   refine sk (sq (sq (rg (fb 2 U116 rfl rfl rfl rfl Z5 (ld G5 rfl rfl (((sS 0 rfl hK3).drop 2).take 1) rfl (on (bk (sq (rg (eqI rfl rfl rfl (a1 rfl ?_)))))))))))
   refine on ?_
   refine ci rfl (fun hc103 => ?_) (fun hc103 => ?_)
   ·have hr104 := if_p hc103 hr42
    refine sq ?_
    obtain ⟨t111, hx112, hr113⟩ := bd_some hr104
    refine jn (fun a w => St M W (hp W) [K2, (hp W)] [] w ∧ Has [] 51 a [(2, .bool t111)]) ?_ ?_
    ·refine rg (fb 4 U116 rfl rfl rfl rfl Z9 (ld G9 rfl rfl (((sS 0 rfl hK3).drop 4).take 1) rfl ?_))
     obtain ⟨r114, hx115, hr116⟩ := bd_some hx112
     refine clS C84 rfl rfl rfl rfl (fun w H hH le => w84 x_0.text hx115) (m1 rfl ?_)
     rcases Bool.eq_false_or_eq_true (r114) with hb117 | hb117
     ·have hr118 := if_p hb117 hr116
      refine gN rfl rfl (hb117) (fb 5 U116 rfl rfl rfl rfl Z3 (gN rfl rfl (hb117) (ld G3 rfl rfl ((sS 0 rfl hK3).drop 5) rfl (gN rfl rfl (hb117) (eqI rfl rfl rfl (pT rfl rfl (hb117) rfl (a1 rfl (on ?_))))))))
      cases hr118
      exact cu ⟨rfl, tv⟩
     ·have hr119 := if_f hb117 hr116
      refine gF rfl rfl (hb117) rfl (gF rfl rfl (hb117) rfl (gF rfl rfl (hb117) rfl (pF rfl rfl (hb117) rfl (a1 rfl (on ?_)))))
      cases hr119
      exact cu ⟨rfl, tv⟩
    ·rintro a w ⟨hS, hA⟩
     refine TG.ap ?_ hS hA
     refine rt_ ?_
     cases hr113
     intro a w hS hA
     refine ret1 hA rfl rfl ?_
     exact ⟨rfl, hS.ext⟩
   ·have hr120 := if_n hc103 hr42
    refine sq (rg (eqI rfl rfl rfl (a1 rfl (on ?_))))
    refine ci rfl (fun hc141 => ?_) (fun hc141 => ?_)
    ·have hr142 := if_p hc141 hr120
     refine sq ?_
     obtain ⟨t146, hx147, hr148⟩ := bd_some hr142
     refine jn (fun a w => St M W (hp W) [K2, (hp W)] [] w ∧ Has [] 51 a [(2, .bool t146)]) ?_ ?_
     ·refine rg (fb 4 U116 rfl rfl rfl rfl Z9 (ld G9 rfl rfl (((sS 0 rfl hK3).drop 4).take 1) rfl (eqS rfl rfl rfl (m1 rfl ?_))))
      by_cases hb149 : x_0.text = []
      ·have hr150 := if_p hb149 hx147
       refine gt hb149 rfl (fb 5 U116 rfl rfl rfl rfl Z3 (gt hb149 rfl (ld G3 rfl rfl ((sS 0 rfl hK3).drop 5) rfl (gt hb149 rfl (eqI rfl rfl rfl (pt hb149 rfl rfl (a1 rfl (on ?_))))))))
       cases hr150
       exact cu ⟨rfl, tv⟩
      ·have hr151 := if_n hb149 hx147
       refine gf hb149 rfl (gf hb149 rfl (gf hb149 rfl (pf hb149 rfl rfl (a1 rfl (on ?_)))))
       cases hr151
       exact cu ⟨rfl, tv⟩
     ·rintro a w ⟨hS, hA⟩
      refine TG.ap ?_ hS hA
      refine rt_ ?_
      cases hr148
      intro a w hS hA
      refine ret1 hA rfl rfl ?_
      exact ⟨rfl, hS.ext⟩
    ·have hr152 := if_n hc141 hr120
     refine sq (rg (eqI rfl rfl rfl (a1 rfl (on ?_))))
     refine ci rfl (fun hc166 => ?_) (fun hc166 => ?_)
     ·have hr167 := if_p hc166 hr152
      refine sq ?_
      obtain ⟨t177, hx178, hr179⟩ := bd_some hr167
      refine jn (fun a w => St M W (hp W) [K2, (hp W)] [] w ∧ Has [] 51 a [(2, .bool t177)]) ?_ ?_
      ·refine rg (fb 4 U116 rfl rfl rfl rfl Z9 (ld G9 rfl rfl (((sS 0 rfl hK3).drop 4).take 1) rfl ?_))
       obtain ⟨r180, hx181, hr182⟩ := bd_some hx178
       refine clS C84 rfl rfl rfl rfl (fun w H hH le => w84 x_0.text hx181) (m1 rfl ?_)
       rcases Bool.eq_false_or_eq_true (r180) with hb183 | hb183
       ·have hr184 := if_p hb183 hr182
        refine gN rfl rfl (hb183) (fb 5 U116 rfl rfl rfl rfl Z3 (gN rfl rfl (hb183) (ld G3 rfl rfl ((sS 0 rfl hK3).drop 5) rfl (gN rfl rfl (hb183) ?_))))
        obtain ⟨r185, hx186, hr187⟩ := bd_some hr184
        refine clS C83 rfl rfl rfl rfl (fun w H hH le => w83 x_0.new_ hx186) (pT rfl rfl (hb183) rfl (a1 rfl (on ?_)))
        cases hr187
        exact cu ⟨rfl, tv⟩
       ·have hr188 := if_f hb183 hr182
        refine gF rfl rfl (hb183) rfl (gF rfl rfl (hb183) rfl (gF rfl rfl (hb183) rfl (pF rfl rfl (hb183) rfl (a1 rfl (on ?_)))))
        cases hr188
        exact cu ⟨rfl, tv⟩
      ·rintro a w ⟨hS, hA⟩
       refine TG.ap ?_ hS hA
       refine rt_ ?_
       cases hr179
       intro a w hS hA
       refine ret1 hA rfl rfl ?_
       exact ⟨rfl, hS.ext⟩
     ·have hr189 := if_n hc166 hr152
      refine sk (sq (rg (a1 rfl (on (rt_ ?_)))))
      cases hr189
      intro a w hS hA
      refine ret1 hA rfl rfl ?_
      exact ⟨rfl, hS.ext⟩

theorem w86 {M : Prop} {W : World} {H : Hp} (hH : H.le (hp W)) {ad_s_0 : Option Addr} {cap_s_0 : Nat} {s_0 : List Erratum} (h_s_0 : Sl (Flat encErratum) 6 H ad_s_0 cap_s_0 s_0) {r : List Erratum} (hr : m86 s_0 = some r) : Calls Tryz.prog 86 [.slice ad_s_0 s_0.length cap_s_0].toArray W (RetK M H W (fun v K => ∃ (ad0 : Option Addr) (cap0 : Nat), v = .slice ad0 r.length cap0 ∧ Sl (Flat encErratum) 6 K ad0 cap0 r)) := by
 have := h_s_0.len
 unfold m86 at hr
 refine enterG (M := M) Tryz.func86 rfl Tryz.ntmps86 rfl hH ?_
 refine sq (rg (a1 rfl (on (sq (sq (rg (m1 rfl (slN U44 rfl rfl (on ?_)))))))))
 refine cb rfl (fun hc3 => ?_) (fun hc3 => ?_)
 ·obtain rfl := Sl.isNil h_s_0 hc3
  have hr4 := (chk_some hr).2
  refine sq (rg (a1 rfl (on (rt_ ?_))))
  cases hr4
  intro a w hS hA
  refine ret1 hA rfl rfl ?_
  exact ⟨⟨_, _, rfl, (Sl.nil _ _ _ _ _ (by decide))⟩, hS.ext⟩
 ·refine sk (sq (rg (bSL 1 encErratum ([] : List Erratum) (cs := []) T10.E44 rfl rfl rfl rfl rfl rfl fun b5 => (m1 rfl ?_))))
  obtain ⟨hk6, hr7⟩ := chk_some hr
  have := lenA ([] : List Erratum) s_0
  refine apS 1 (enc := encErratum) (l := ([] : List Erratum)) (m := s_0) T10.E44 rfl rfl rfl rfl rfl rfl h_s_0 0 rfl (fun _ => rfl) (fun _ => rfl) rfl hk6 fun ad8 cap9 => (a1 rfl (on (rt_ ?_)))
  cases hr7
  intro a w hS hA
  refine ret1 hA rfl rfl ?_
  exact ⟨⟨_, _, rfl, (hS.listOut 1 rfl (fun _ => rfl))⟩, hS.ext⟩

theorem w171 {M : Prop} {W : World} (x_0 : Int) {r : Bool} (hr : m171 x_0 = some r) : Calls Tryz.prog 171 [.int .i64 x_0].toArray W (RetS M W (.bool r)) := by
 unfold m171 at hr
 refine enterG (M := M) Tryz.func171 rfl Tryz.ntmps171 rfl (Hp.le.refl _) ?_
 refine sq (rg (a1 rfl (on (sq (rg (m1 rfl (m1 rfl (neI rfl rfl rfl (a1 rfl (on (rt_ ?_)))))))))))
 obtain rfl := sj hr
 intro a w hS hA
 refine ret1 hA rfl rfl ?_
 exact ⟨rfl, hS.ext⟩

theorem w130 {M : Prop} {W : World} (x_0 : Int) (y_1 : Int) {r : Int} (hr : m130 x_0 y_1 = some r) : Calls Tryz.prog 130 [.int .i64 x_0, .int .i64 y_1].toArray W (RetS M W (.int .i64 r)) := by
 unfold m130 at hr
 refine enterG (M := M) Tryz.func130 rfl Tryz.ntmps130 rfl (Hp.le.refl _) ?_
 refine sq (rg (a1 rfl (on (sq (rg (m1 rfl ?_))))))
 obtain ⟨r1, hx2, hr3⟩ := bd_some hr
 refine clS C171 rfl rfl rfl rfl (fun w H hH le => w171 x_0 hx2) (a1 rfl (on (sq (rg (m1 rfl ?_)))))
 obtain ⟨r4, hx5, hr6⟩ := bd_some hr3
 refine clS C171 rfl rfl rfl rfl (fun w H hH le => w171 y_1 hx5) (a1 rfl (on (sq (sq (rg (m1 rfl (on ?_)))))))
 refine cb rfl (fun hc13 => ?_) (fun hc13 => ?_)
 ·have hr14 := if_p hc13 hr6
  refine sq (sq (rg (m1 rfl (on ?_))))
  refine cb rfl (fun hc18 => ?_) (fun hc18 => ?_)
  ·have hr19 := if_p hc18 hr14
   refine sq (rg (a1 rfl (on (rt_ ?_))))
   cases hr19
   intro a w hS hA
   refine ret1 hA rfl rfl ?_
   exact ⟨rfl, hS.ext⟩
  ·have hr20 := if_f hc18 hr14
   refine sk (sq (rg (a1 rfl (on (rt_ ?_)))))
   cases hr20
   intro a w hS hA
   refine ret1 hA rfl rfl ?_
   exact ⟨rfl, hS.ext⟩
 ·have hr21 := if_f hc13 hr6
  refine sk (sq (sq (rg (m1 rfl (on ?_)))))
  refine cb rfl (fun hc25 => ?_) (fun hc25 => ?_)
  ·have hr26 := if_p hc25 hr21
   refine sq (rg (a1 rfl (on (rt_ ?_))))
   cases hr26
   intro a w hS hA
   refine ret1 hA rfl rfl ?_
   exact ⟨rfl, hS.ext⟩
  ·have hr27 := if_f hc25 hr21
   refine sk (sq (sq (rg (m1 rfl (m1 rfl (ltI rfl rfl rfl (on ?_)))))))
   refine ci rfl (fun hc31 => ?_) (fun hc31 => ?_)
   ·have hr32 := if_p hc31 hr27
    refine sq (rg (a1 rfl (on (rt_ ?_))))
    cases hr32
    intro a w hS hA
    refine ret1 hA rfl rfl ?_
    exact ⟨rfl, hS.ext⟩
   ·have hr33 := if_n hc31 hr27
    refine sk (sq (sq (rg (m1 rfl (m1 rfl (gtI rfl rfl rfl (on ?_)))))))
    refine ci rfl (fun hc37 => ?_) (fun hc37 => ?_)
    ·have hr38 := if_p hc37 hr33
     refine sq (rg (a1 rfl (on (rt_ ?_))))
     cases hr38
     intro a w hS hA
     refine ret1 hA rfl rfl ?_
     exact ⟨rfl, hS.ext⟩
    ·have hr39 := if_n hc37 hr33
     refine sk (sq (rg (a1 rfl (on (rt_ ?_)))))
     cases hr39
     intro a w hS hA
     refine ret1 hA rfl rfl ?_
     exact ⟨rfl, hS.ext⟩

theorem w129 {M : Prop} {W : World} {H : Hp} (hH : H.le (hp W)) {ad_vals : Option Addr} {cap_vals : Nat} {vals : List Int} (h_vals : Sl (Flat (encI .i64)) 1 H ad_vals cap_vals vals) {r : Int} (hr : m129 vals = some r) : Calls Tryz.prog 129 [.slice ad_vals vals.length cap_vals].toArray W (RetS M W (.int .i64 r)) := by
 have := h_vals.len
 unfold m129 at hr
 refine enterG (M := M) Tryz.func129 rfl Tryz.ntmps129 rfl hH ?_
 refine sq (rg (a1 rfl (on (sq (rg (a1 rfl (on (sq (sq (rg (m1 rfl ?_)))))))))))
 refine lnL U28 rfl rfl (m1 rfl (on ?_))
 obtain ⟨e16, hl17, hr18⟩ := bd_some hr
 refine jn (fun a w => ∃ t19, e16 = .inl t19 ∧ St M W H [H] [] w ∧ Has [] 18 a [(3, .int .i64 0)]) ?_ ?_
 ·refine bk ?_
  refine lp hl17 (fun s20 a w => St M W H [H] [] w ∧ Has [] 18 a [(3, .int .i64 0), (6, .slice ad_vals vals.length cap_vals), (7, .int .i64 (vals.length : Int)), (8, .int .i64 (s20 : Int))]) ?_ ?_
  ·exact cu ⟨rfl, rfl, rfl, rfl, tv⟩
  ·rintro j s20 y23 hr21 hz22 a w ⟨hS, hA⟩
   refine TG.ap ?_ hS hA
   unfold m129_1 at hr21
   refine sq (rg (ltI rfl rfl rfl (on (sq ?_))))
   refine ci rfl (fun hc27 => ?_) (fun hc27 => ?_)
   ·have hr28 := if_p hc27 hr21
    refine sk (sq (bk (sq (rg ?_))))
    obtain ⟨x40, hx41, hr42⟩ := bd_some hr28
    obtain ⟨p43, rfl⟩ := h_vals.adr hx41
    obtain ⟨cs44, hcs45, hq46, hr47⟩ := h_vals.at hx41
    obtain rfl := hr47
    refine iaP U28 Z3 rfl rfl rfl rfl (lt_of hx41) (ld G3 rfl rfl (sS 0 rfl hq46) rfl (a1 rfl (on (sq (rg (m1 rfl (m1 rfl (neI rfl rfl rfl (on ?_)))))))))
    refine ci rfl (fun hc51 => ?_) (fun hc51 => ?_)
    ·have hr52 := if_p hc51 hr42
     refine sq (rg (m1 rfl (a1 rfl (on (rt_ ?_)))))
     cases hr52
     obtain rfl := Fin.out hz22
     cases hr18
     intro a w hS hA
     refine ret1 hA rfl rfl ?_
     exact ⟨rfl, hS.ext⟩
    ·have hr53 := if_n hc51 hr42
     refine sk (rg (adI rfl rfl rfl (by omega) (m1 rfl (on ?_))))
     cases hr53
     intro a w hS hA
     exact ⟨_, hz22, hS, hA.cut ⟨rfl, rfl, rfl, rfl, tv⟩⟩
   ·have hr54 := if_n hc27 hr21
    refine xt rfl ?_
    cases hr54
    obtain rfl := Fin.out hz22
    intro a w hS hA
    exact ⟨_, rfl, hS, hA.cut ⟨rfl, tv⟩⟩
 ·rintro a w ⟨t19, rfl, hS, hA⟩
  refine TG.ap ?_ hS hA
  refine sq (rg (m1 rfl (a1 rfl (on (rt_ ?_)))))
  cases hr18
  intro a w hS hA
  refine ret1 hA rfl rfl ?_
  exact ⟨rfl, hS.ext⟩

theorem w88 {M : Prop} {W : World} {cs_a_0 : List Value} (a_0 : Erratum) (h_a_0 : (Flat encErratum) (hp W) cs_a_0 a_0) {cs_b_1 : List Value} (b_1 : Erratum) (h_b_1 : (Flat encErratum) (hp W) cs_b_1 b_1) {r : Int} (hr : m88 a_0 b_1 = some r) : Calls Tryz.prog 88 [.agg cs_a_0.toArray, .agg cs_b_1.toArray].toArray W (RetS M W (.int .i64 r)) := by
 obtain rfl := h_a_0
 obtain rfl := h_b_1
 unfold m88 at hr
 refine enterG (M := M) Tryz.func88 rfl Tryz.ntmps88 rfl (Hp.le.refl _) ?_
 refine sq (rg (bI (cs := [.int .i64 a_0.number, .int .i64 a_0.day, .int .u8 a_0.kind, .int .i64 a_0.anchor, .string (bs a_0.text), .int .i64 a_0.new_]) rfl rfl rfl fun q1 K2 hK3 => (bI (cs := [.int .i64 b_1.number, .int .i64 b_1.day, .int .u8 b_1.kind, .int .i64 b_1.anchor, .string (bs b_1.text), .int .i64 b_1.new_]) rfl rfl rfl fun q4 K5 hK6 => (a1 rfl (on (sq ?_))))))
 obtain ⟨r7, hx8, hr9⟩ := bd_some hr
 refine drG 9 mixed (by kernel_rfl) rfl (dt rfl (fb 1 U116 rfl rfl rfl rfl Z3 fin1) (dt rfl (ld G3 rfl rfl (((sS 2 rfl hK3).drop 1).take 1) rfl fin1) (dt rfl (fb 1 U116 rfl rfl rfl rfl Z3 fin1) (dt rfl (ld G3 rfl rfl (((sS 1 rfl hK6).drop 1).take 1) rfl fin1) (dt rfl (clS C130 rfl rfl rfl rfl (fun w H hH le => w130 a_0.day b_1.day hx8) fin1) (dt rfl (fb 0 U116 rfl rfl rfl rfl Z3 fin1) (dt rfl (ld G3 rfl rfl ((sS 2 rfl hK3).take 1) rfl fin1) (dt rfl (fb 0 U116 rfl rfl rfl rfl Z3 fin1) (dt rfl (ld G3 rfl rfl ((sS 1 rfl hK6).take 1) rfl fin1) (DF.nil fun K10 hF => ?_))))))))))
 obtain ⟨r11, hx12, hr13⟩ := bd_some hr9
 refine clS C130 rfl rfl rfl rfl (fun w H hH le => w130 a_0.number b_1.number hx12) (bS (cs := [.int .i64 r7, .int .i64 r11]) T10.E28 rfl rfl rfl rfl fun q14 K15 hq16 hK17 => ?_)
 have hl18 : Sl (Flat (encI .i64)) 1 K15 (some q14) 2 ([r7, r11] : List Int) := Sl.litR (css := [[.int .i64 r7], [.int .i64 r11]]) (l := ([r7, r11] : List Int)) ⟨⟨rfl, rfl, rfl⟩, ⟨rfl, rfl, rfl⟩, tv⟩ hq16 hK17 rfl
 have := hl18.len
 obtain ⟨r19, hx20, hr21⟩ := bd_some hr13
 refine clS C129 rfl rfl rfl rfl (fun w H hH le => w129 hH (hl18.mono (Flat.mono _) (le.at 0 rfl)) hx20) (a1 rfl (on (rt_ ?_)))
 cases hr21
 intro a w hS hA
 refine ret1 hA rfl rfl ?_
 exact ⟨rfl, hS.ext⟩

theorem w85 {M : Prop} {W : World} {H : Hp} (hH : H.le (hp W)) {fv_yield : Value} {yield : Erratum → Option Bool} (h_yield : FnV M Tryz.prog H fv_yield (SF1 (Va encErratum) Value.bool yield)) {q_f0_ : Addr} {ad_f0_ : Option Addr} {cap_f0_ : Nat} {f0_ : List Erratum} (hc_f0_ : CellsAt H q_f0_ [.slice ad_f0_ f0_.length cap_f0_]) (h_f0_ : Sl (Flat encErratum) 6 H ad_f0_ cap_f0_ f0_) {q_f1_ : Addr} (f1_ : Int) (hc_f1_ : CellsAt H q_f1_ [.int .i64 f1_]) {r : Unit} (hr : m85 yield f0_ f1_ = some r) : Calls Tryz.prog 85 [fv_yield, .pointer (some q_f0_), .pointer (some q_f1_)].toArray W (RetS M W (.tuple #[])) := by
 have hh_yield := h_yield
 obtain ⟨f_yield, fi_yield, ca_yield, rfl, _, _⟩ := h_yield
 have := h_f0_.len
 unfold m85 at hr
 refine enterG (M := M) Tryz.func85 rfl Tryz.ntmps85 rfl hH ?_
 refine sq (rg (ld G44 rfl rfl (sS 0 rfl hc_f0_) rfl ?_))
 obtain ⟨t8, hx9, hr10⟩ := bd_some hr
 refine clI C86 Tryz.func86 rfl Tryz.ntmps86 rfl rfl rfl rfl (fun v w => (∃ (ad11 : Option Addr) (cap12 : Nat), v = .slice ad11 t8.length cap12 ∧ St M W H [H] [(1, Own.list ad11 cap12 116 6 encErratum t8)] w)) ?_ ?_
 ·refine sq (rg (a1 rfl (on (sq (sq (rg (m1 rfl (slN U44 rfl rfl (on ?_)))))))))
  refine cb rfl (fun hc15 => ?_) (fun hc15 => ?_)
  ·obtain rfl := Sl.isNil h_f0_ hc15
   have hr16 := (chk_some hx9).2
   refine sq (rg (a1 rfl (on (rt_ (TG.nilRow 1 116 6 (TG.as 1 (z := Own.list none 0 116 6 encErratum ([] : List Erratum)) rfl rfl ?_))))))
   cases hr16
   intro a w hS hA
   refine ret1 hA rfl rfl ?_
   exact ⟨_, rfl, ⟨none, 0, rfl, hS⟩⟩
  ·refine sk (sq (rg (bSL 1 encErratum ([] : List Erratum) (cs := []) T10.E44 rfl rfl rfl rfl rfl rfl fun b17 => (m1 rfl ?_))))
   obtain ⟨hk18, hr19⟩ := chk_some hx9
   have := lenA ([] : List Erratum) f0_
   refine apS 1 (enc := encErratum) (l := ([] : List Erratum)) (m := f0_) T10.E44 rfl rfl rfl rfl rfl rfl h_f0_ 0 rfl (fun _ => rfl) (fun _ => rfl) rfl hk18 fun ad20 cap21 => (a1 rfl (on (rt_ ?_)))
   cases hr19
   intro a w hS hA
   refine ret1 hA rfl rfl ?_
   exact ⟨_, rfl, ⟨ad20, cap21, rfl, hS⟩⟩
 ·rintro a w v hA (⟨ad11, cap12, rfl, hS⟩)
  refine putK rfl hA hS (a1 rfl (on (sq (rg (m1 rfl ?_)))))
  obtain ⟨l22, hx23, hr24⟩ := bd_some hr10
  have hln25 : l22.length = t8.length := (sortO_len hx23)
  refine srtK 1 (enc := encErratum) (V := Va encErratum) (V' := Va encErratum) (fun _ => rfl) (fun _ => rfl) Tryz.srt87 C87 rfl rfl rfl rfl rfl rfl (fun H le => ⟨88, [], [], rfl, C88, fun w_ K_ args_ v_ hK hw hs => by obtain ⟨u0_, u1_, x0_, x1_, r_, rfl, h0_, h1_, hx, rfl⟩ := hs; cases h0_; cases h1_; exact w88  x0_ rfl x1_ rfl  hx⟩) (fun _ _ => rfl) (fun _ _ => rfl) hx23 (on (sq (rg (m1 rfl (TG.len 1 rfl fun _ => (lnL U44 rfl rfl (m1 rfl (on ?_))))))))
  obtain ⟨e47, hl48, hr49⟩ := bd_some hr24
  refine jn (fun a w => ∃ t50, e47 = .inl t50 ∧ St M W H [H] [(1, Own.list ad11 cap12 116 6 encErratum l22)] w ∧ Has [] 28 a []) ?_ ?_
  ·refine bk ?_
   refine lp hl48 (fun s51 a w => St M W H [H] [(1, Own.list ad11 cap12 116 6 encErratum l22)] w ∧ Has [] 28 a [(0, .func (.func f_yield) fi_yield.toArray ca_yield.toArray), (2, .pointer (some q_f1_)), (11, .slice ad11 t8.length cap12), (12, .int .i64 (t8.length : Int)), (13, .int .i64 (s51 : Int))]) ?_ ?_
   ·exact cu ⟨rfl, rfl, rfl, rfl, rfl, tv⟩
   ·rintro j s51 y54 hr52 hz53 a w ⟨hS, hA⟩
    refine TG.ap ?_ hS hA
    unfold m85_1 at hr52
    refine sq (rg (ltI rfl rfl rfl (on (sq ?_))))
    refine ci rfl (fun hc58 => ?_) (fun hc58 => ?_)
    ·have hr59 := if_p hc58 hr52
     refine sk (sq (bk (sq (rg ?_))))
     obtain ⟨x77, hx78, hr79⟩ := bd_some hr59
     refine TG.addr 1 rfl (lt_of0 hx78) fun b80 h => ?_; subst h
     refine iaP U44 Z116 rfl rfl rfl rfl (Nat.lt_of_lt_of_eq (lt_of hx78) hln25) (ldA G116 Z116 rfl rfl (sE 1 rfl (fun _ => rfl) hx78) rfl (va (cs := [.int .i64 x77.number, .int .i64 x77.day, .int .u8 x77.kind, .int .i64 x77.anchor, .string (bs x77.text), .int .i64 x77.new_]) Tryz.zeroValue116 Z116 rfl rfl rfl rfl rfl rfl rfl rfl fun q81 K82 hK83 => (on (sq ?_))))
     obtain ⟨t90, hx91, hr92⟩ := bd_some hr79
     refine jn (fun a w => St M W H [K82, H] [(1, Own.list (some ⟨b80, 0, none⟩) cap12 116 6 encErratum l22)] w ∧ Has [] 28 a [(0, .func (.func f_yield) fi_yield.toArray ca_yield.toArray), (2, .pointer (some q_f1_)), (11, .slice (some ⟨b80, 0, none⟩) t8.length cap12), (12, .int .i64 (t8.length : Int)), (13, .int .i64 (s51 : Int)), (26, .bool t90)]) ?_ ?_
     ·refine rg (fb 1 U116 rfl rfl rfl rfl Z3 (ld G3 rfl rfl (((sS 0 rfl hK83).drop 1).take 1) rfl (ld G3 rfl rfl (sS 1 rfl hc_f1_) rfl (gtI rfl rfl rfl (m1 rfl ?_)))))
      by_cases hb93 : f1_ < x77.day
      ·have hr94 := if_p hb93 hx91
       refine gf' hb93 rfl (gf' hb93 rfl (gf' hb93 rfl (gf' hb93 rfl (pt hb93 rfl rfl (on ?_)))))
       cases hr94
       exact cu ⟨rfl, rfl, rfl, rfl, rfl, rfl, tv⟩
      ·have hr95 := if_n hb93 hx91
       refine gt' hb93 rfl (m1 rfl (gt' hb93 rfl (ldA G116 Z116 rfl rfl (sS 0 rfl hK83) rfl (gt' hb93 rfl ?_))))
       obtain ⟨r96, hx97, hr98⟩ := bd_some hr95
       refine clV (v := .bool r96) hh_yield 1 rfl rfl rfl rfl (fun H le => ⟨_, x77, r96, rfl, rfl, hx97, rfl⟩) (gt' hb93 rfl (nt rfl rfl (pf hb93 rfl rfl (on ?_))))
       cases hr98
       exact cu ⟨rfl, rfl, rfl, rfl, rfl, rfl, tv⟩
     ·rintro a w ⟨hS, hA⟩
      refine TG.ap ?_ hS hA
      refine cb rfl (fun hc102 => ?_) (fun hc102 => ?_)
      ·have hr103 := if_p hc102 hr92
       refine rt_ ?_
       cases hr103
       obtain rfl := Fin.out hz53
       cases hr49
       intro a w hS hA
       refine ret0 hA rfl ?_
       exact ⟨rfl, hS.ext⟩
      ·have hr104 := if_f hc102 hr92
       refine sk (rg (adI rfl rfl rfl (by omega) (m1 rfl (on ?_))))
       cases hr104
       intro a w hS hA
       exact ⟨_, hz53, hS.selH [1] rfl, hA.cut ⟨rfl, rfl, rfl, rfl, rfl, tv⟩⟩
    ·have hr105 := if_n hc58 hr52
     refine xt rfl ?_
     cases hr105
     obtain rfl := Fin.out hz53
     intro a w hS hA
     exact ⟨_, rfl, hS, hA.cut tv⟩
  ·rintro a w ⟨t50, rfl, hS, hA⟩
   refine TG.ap ?_ hS hA
   cases hr49
   intro a w hS hA
   refine ret0 hA rfl ?_
   exact ⟨rfl, hS.ext⟩

theorem w54 {M : Prop} {W : World} {H : Hp} (hH : H.le (hp W)) {cs_v_0 : List Value} (v_0 : Volume) (h_v_0 : (RVolume) H cs_v_0 v_0) {ad_errata : Option Addr} {cap_errata : Nat} {errata : List Erratum} (h_errata : Sl (Flat encErratum) 6 H ad_errata cap_errata errata) {r : Int} (hr : m54 v_0 errata = some r) : Calls Tryz.prog 54 [.agg cs_v_0.toArray, .slice ad_errata errata.length cap_errata].toArray W (RetS M W (.int .i64 r)) := by
 have hh_v_0 := h_v_0
 obtain ⟨ad1, cap2, rfl, hl3⟩ := h_v_0
 have := hl3.len
 have := h_errata.len
 unfold m54 at hr
 refine enterGM (M := M) Tryz.func54 rfl Tryz.ntmps54 rfl hH ?_
 refine sq (rg (bI (cs := [.int .i64 v_0.number, .int .i64 v_0.bound, .int .i64 v_0.height, .int .i64 v_0.width, .slice ad1 v_0.parts.length cap2]) rfl rfl rfl fun q4 K5 hK6 => (al 1 (cs := [.int .i64 0]) Tryz.zeroValue37 rfl rfl fun b7 => (on (sq (rg (mkM 2 keI Value.bool rfl fun b8 => (al 3 (cs := [.map none]) Tryz.zeroValue158 rfl rfl fun b9 => (sto 3 (cs := [.map (some b8)]) Z158 rfl rfl rfl rfl rfl rfl rfl (on (sq ?_)))))))))))
 refine sq (rg (ldA G42 Z42 rfl rfl (sS 0 rfl hK6) rfl ?_))
 obtain ⟨r10, hx11, hr12⟩ := bd_some hr
 refine clK C53 rfl rfl rfl rfl (fun w H hH le => w53 hH v_0 (RVolume.mono _ _ _ _ (le.at 1 rfl) hh_v_0) hx11) ?_
 rintro v_ K13 ⟨ad14, cap15, rfl, hl16⟩
 have := hl16.len
 refine lnL U36 rfl rfl (m1 rfl (on ?_))
 obtain ⟨e47, hl48, hr49⟩ := bd_some hr12
 refine jn (fun a w => St M W H [K13, K5, H] [(3, cel b9 158 [.map (some b8)]), (2, Own.map' keI Value.bool b8 e47), (1, cel b7 37 [.int .i64 0])] w ∧ Has [] 35 a [(1, .slice ad_errata errata.length cap_errata), (4, .pointer (some (⟨b7, 0, none⟩))), (5, .pointer (some (⟨b9, 0, none⟩)))]) ?_ ?_
 ·refine bk ?_
  refine lp hl48 (fun s50 a w => St M W H [K13, K5, H] [(3, cel b9 158 [.map (some b8)]), (2, Own.map' keI Value.bool b8 s50.2), (1, cel b7 37 [.int .i64 0])] w ∧ Has [] 35 a [(1, .slice ad_errata errata.length cap_errata), (4, .pointer (some (⟨b7, 0, none⟩))), (5, .pointer (some (⟨b9, 0, none⟩))), (11, .slice ad14 r10.length cap15), (12, .int .i64 (r10.length : Int)), (13, .int .i64 (s50.1 : Int))]) ?_ ?_
  ·exact cu ⟨rfl, rfl, rfl, rfl, rfl, rfl, tv⟩
  ·rintro j s50 y53 hr51 hz52 a w ⟨hS, hA⟩
   refine TG.ap ?_ hS hA
   unfold m54_1 at hr51
   refine sq (rg (ltI rfl rfl rfl (on (sq ?_))))
   refine ci rfl (fun hc57 => ?_) (fun hc57 => ?_)
   ·have hr58 := if_p hc57 hr51
    refine sk (sq (bk (sq (rg ?_))))
    obtain ⟨x70, hx71, hr72⟩ := bd_some hr58
    obtain ⟨p73, rfl⟩ := hl16.adr hx71
    obtain ⟨cs74, hcs75, hq76, hr77⟩ := hl16.at hx71
    obtain rfl := hr77
    refine iaP U36 Z52 rfl rfl rfl rfl (lt_of hx71) (ldA G52 Z52 rfl rfl (sS 0 rfl hq76) rfl (va (cs := [.int .i64 x70.anchor, .string (bs x70.text)]) Tryz.zeroValue52 Z52 rfl rfl rfl rfl rfl rfl rfl rfl fun q78 K79 hK80 => (on (rg (ld G158 rfl rfl (sO 3 rfl) rfl (fb 0 U52 rfl rfl rfl rfl Z3 (ld G3 rfl rfl ((sS 0 rfl hK80).take 1) rfl (mpU 2 (ke := keI) (enc := Value.bool) x70.anchor true U158 U3 rfl rfl rfl rfl (on (rg (adI rfl rfl rfl (by omega) ?_)))))))))))
    refine m1 rfl (on ?_)
    cases hr72
    intro a w hS hA
    exact ⟨_, hz52, hS.selH [1, 2, 3] rfl, hA.cut ⟨rfl, rfl, rfl, rfl, rfl, rfl, tv⟩⟩
   ·have hr81 := if_n hc57 hr51
    refine xt rfl ?_
    cases hr81
    obtain rfl := Fin.out hz52
    exact cu ⟨rfl, rfl, rfl, tv⟩
 ·rintro a w ⟨hS, hA⟩
  refine TG.ap ?_ hS hA
  refine sq (sq (rg (m1 rfl (clT C55 Tryz.func55 rfl Tryz.ntmps55 rfl rfl rfl rfl (sq (rg (bI (cs := [.slice ad_errata errata.length cap_errata]) rfl rfl rfl fun q88 K89 hK90 => (bI (cs := [.int .i64 99999]) rfl rfl rfl fun q91 K92 hK93 => (a1 rfl (on (sq ?_)))))))))))
  refine rg (fn rfl rfl rfl (a1 rfl (on (rt_ ?_))))
  intro a w hS hA
  refine ret1 hA rfl rfl ?_
  refine ⟨_, rfl, fun a hA => ?_⟩
  refine putK rfl hA hS (on (bk ?_))
  obtain ⟨t261, hx262, hr263⟩ := bd_some hr49
  refine rfO 4 5 C85 Tryz.func85 rfl Tryz.ntmps85 rfl rfl (fun l180 dB181 O183 w => (∃ (t264 : (List (Int × Bool))), t261 = (.inl t264) ∧ St M W H [K92, K89, K13, K5, H] [(4, Own.blk l180 (O183 .ready none)), (5, Own.blk dB181 (.deferred (some []))), (3, cel b9 158 [.map (some b8)]), (2, Own.map' keI Value.bool b8 t264), (1, cel b7 37 [.int .i64 0])] w) ∨ (∃ (t265 : Nat × (List (Int × Bool))), t261 = (.inr t265) ∧ St M W H [K92, K89, K13, K5, H] [(4, Own.blk l180 (O183 .done (some .ret))), (5, Own.blk dB181 (.deferred (some []))), (3, cel b9 158 [.map (some b8)]), (2, Own.map' keI Value.bool b8 t265.2), (1, cel b7 37 [.int .i64 (t265.1 : Int)])] w)) ?_ ?_
  ·intro l180 dB181 O183 tm182 hT184 hO185
   refine sq (rg (ld G44 rfl rfl (sS 1 rfl hK90) rfl ?_))
   obtain ⟨t273, hx274, hr275⟩ := bd_some hx262
   refine clI C86 Tryz.func86 rfl Tryz.ntmps86 rfl rfl rfl rfl (fun v w => (∃ (ad276 : Option Addr) (cap277 : Nat), v = .slice ad276 t273.length cap277 ∧ St M W H [K92, K89, K13, K5, H] [(6, Own.list ad276 cap277 116 6 encErratum t273), (4, Own.blk l180 (O183 .ready none)), (5, Own.blk dB181 (.deferred (some []))), (3, cel b9 158 [.map (some b8)]), (2, Own.map' keI Value.bool b8 e47), (1, cel b7 37 [.int .i64 0])] w)) ?_ ?_
   ·refine sq (rg (a1 rfl (on (sq (sq (rg (m1 rfl (slN U44 rfl rfl (on ?_)))))))))
    refine cb rfl (fun hc280 => ?_) (fun hc280 => ?_)
    ·obtain rfl := Sl.isNil h_errata hc280
     have hr281 := (chk_some hx274).2
     refine sq (rg (a1 rfl (on (rt_ (TG.nilRow 6 116 6 (TG.as 6 (z := Own.list none 0 116 6 encErratum ([] : List Erratum)) rfl rfl ?_))))))
     cases hr281
     intro a w hS hA
     refine ret1 hA rfl rfl ?_
     exact ⟨_, rfl, ⟨none, 0, rfl, hS⟩⟩
    ·refine sk (sq (rg (bSL 6 encErratum ([] : List Erratum) (cs := []) T10.E44 rfl rfl rfl rfl rfl rfl fun b282 => (m1 rfl ?_))))
     obtain ⟨hk283, hr284⟩ := chk_some hx274
     have := lenA ([] : List Erratum) errata
     refine apS 6 (enc := encErratum) (l := ([] : List Erratum)) (m := errata) T10.E44 rfl rfl rfl rfl rfl rfl h_errata 4 rfl (fun _ => rfl) (fun _ => rfl) rfl hk283 fun ad285 cap286 => (a1 rfl (on (rt_ ?_)))
     cases hr284
     intro a w hS hA
     refine ret1 hA rfl rfl ?_
     exact ⟨_, rfl, ⟨ad285, cap286, rfl, hS⟩⟩
   ·rintro a w v hA (⟨ad276, cap277, rfl, hS⟩)
    refine putK rfl hA hS (a1 rfl (on (sq (rg (m1 rfl ?_)))))
    obtain ⟨l287, hx288, hr289⟩ := bd_some hr275
    have hln290 : l287.length = t273.length := (sortO_len hx288)
    refine srtK 6 (enc := encErratum) (V := Va encErratum) (V' := Va encErratum) (fun _ => rfl) (fun _ => rfl) Tryz.srt87 C87 rfl rfl rfl rfl rfl rfl (fun H le => ⟨88, [], [], rfl, C88, fun w_ K_ args_ v_ hK hw hs => by obtain ⟨u0_, u1_, x0_, x1_, r_, rfl, h0_, h1_, hx, rfl⟩ := hs; cases h0_; cases h1_; exact w88  x0_ rfl x1_ rfl  hx⟩) (fun _ _ => rfl) (fun _ _ => rfl) hx288 (on (sq (rg (m1 rfl (TG.len 6 rfl fun _ => (lnL U44 rfl rfl (m1 rfl (on ?_))))))))
    obtain ⟨e349, hl350, hr351⟩ := bd_some hr289
    refine jn (fun a w => ∃ t352, e349 = .inl t352 ∧ St M W H [K92, K89, K13, K5, H] [(6, Own.list ad276 cap277 116 6 encErratum l287), (4, Own.blk l180 (O183 .ready none)), (5, Own.blk dB181 (.deferred (some []))), (3, cel b9 158 [.map (some b8)]), (2, Own.map' keI Value.bool b8 t352), (1, cel b7 37 [.int .i64 0])] w ∧ Has [] 28 a []) ?_ ?_
    ·refine bk ?_
     refine lp hl350 (fun s353 a w => St M W H [K92, K89, K13, K5, H] [(6, Own.list ad276 cap277 116 6 encErratum l287), (4, Own.blk l180 (O183 .ready none)), (5, Own.blk dB181 (.deferred (some []))), (3, cel b9 158 [.map (some b8)]), (2, Own.map' keI Value.bool b8 s353.2), (1, cel b7 37 [.int .i64 0])] w ∧ Has [] 28 a [(0, .func (.yield l180) #[] #[]), (2, .pointer (some q91)), (11, .slice ad276 t273.length cap277), (12, .int .i64 (t273.length : Int)), (13, .int .i64 (s353.1 : Int))]) ?_ ?_
     ·exact cu ⟨rfl, rfl, rfl, rfl, rfl, tv⟩
     ·rintro j s353 y356 hr354 hz355 a w ⟨hS, hA⟩
      refine TG.ap ?_ hS hA
      unfold m54_2 at hr354
      refine sq (rg (ltI rfl rfl rfl (on (sq ?_))))
      refine ci rfl (fun hc360 => ?_) (fun hc360 => ?_)
      ·have hr361 := if_p hc360 hr354
       refine sk (sq (bk (sq (rg ?_))))
       obtain ⟨x387, hx388, hr389⟩ := bd_some hr361
       refine TG.addr 6 rfl (lt_of0 hx388) fun b390 h => ?_; subst h
       refine iaP U44 Z116 rfl rfl rfl rfl (Nat.lt_of_lt_of_eq (lt_of hx388) hln290) (ldA G116 Z116 rfl rfl (sE 6 rfl (fun _ => rfl) hx388) rfl (va (cs := [.int .i64 x387.number, .int .i64 x387.day, .int .u8 x387.kind, .int .i64 x387.anchor, .string (bs x387.text), .int .i64 x387.new_]) Tryz.zeroValue116 Z116 rfl rfl rfl rfl rfl rfl rfl rfl fun q391 K392 hK393 => (on (sq (rg (fb 1 U116 rfl rfl rfl rfl Z3 (ld G3 rfl rfl (((sS 0 rfl hK393).drop 1).take 1) rfl (ld G3 rfl rfl (sS 1 rfl hK93) rfl (gtI rfl rfl rfl (m1 rfl ?_))))))))))
       by_cases hb412 : 99999 < x387.day
       ·have hr413 := if_p hb412 hr389
        refine gf' hb412 rfl (gf' hb412 rfl (gf' hb412 rfl (gf' hb412 rfl (pt hb412 rfl rfl (on (cT rfl rfl (rt_ ?_)))))))
        cases hr413
        obtain rfl := Fin.out hz355
        refine TG.del 6 ?_
        cases hr351
        intro a w hS hA
        refine ret0 hA rfl ?_
        exact ⟨_, rfl, .inl ⟨_, rfl, hS.selH [1, 2, 3, 4, 5] rfl⟩⟩
       ·have hr414 := if_n hb412 hr389
        refine gt' hb412 rfl (m1 rfl (gt' hb412 rfl (ldA G116 Z116 rfl rfl (sS 0 rfl hK393) rfl (gt' hb412 rfl ?_))))
        obtain ⟨t425, hx426, hr427⟩ := bd_some hr414
        refine yl 4 [] (L1 := (23, .agg [.int .i64 x387.number, .int .i64 x387.day, .int .u8 x387.kind, .int .i64 x387.anchor, .string (bs x387.text), .int .i64 x387.new_].toArray) :: _) rfl rfl rfl hT184 hO185 rfl rfl rfl (fun v w => (∃ (t428 : Nat), t425 = (.inl t428) ∧ v = .bool false ∧ St M W H [K392, K92, K89, K13, K5, H] [(6, Own.list (some ⟨b390, 0, none⟩) cap277 116 6 encErratum l287), (4, Own.blk l180 (O183 .done (some .ret))), (5, Own.blk dB181 (.deferred (some []))), (3, cel b9 158 [.map (some b8)]), (2, Own.map' keI Value.bool b8 s353.2), (1, cel b7 37 [.int .i64 (t428 : Int)])] w) ∨ (∃ (t429 : (List (Int × Bool))), t425 = (.inr t429) ∧ v = .bool true ∧ St M W H [K392, K92, K89, K13, K5, H] [(6, Own.list (some ⟨b390, 0, none⟩) cap277 116 6 encErratum l287), (4, Own.blk l180 (O183 .ready none)), (5, Own.blk dB181 (.deferred (some []))), (3, cel b9 158 [.map (some b8)]), (2, Own.map' keI Value.bool b8 t429), (1, cel b7 37 [.int .i64 0])] w)) ?_ ?_
        ·refine rg (va (cs := [.int .i64 x387.number, .int .i64 x387.day, .int .u8 x387.kind, .int .i64 x387.anchor, .string (bs x387.text), .int .i64 x387.new_]) Tryz.zeroValue116 Z116 rfl rfl rfl rfl rfl rfl rfl rfl fun q430 K431 hK432 => (on (bR 4 hO185 rfl (bk (sq (sq (rg (ld G158 rfl rfl (sO 3 rfl) rfl (fb 3 U116 rfl rfl rfl rfl Z3 (ld G3 rfl rfl (((sS 0 rfl hK432).drop 3).take 1) rfl (lk1 (ke := keI) (enc := Value.bool) x387.anchor (z0 := false) U158 U3 Tryz.zeroValue4 rfl rfl rfl rfl (mO 2 rfl) ?_)))))))))))
         refine nt rfl rfl (on ?_)
         refine cb rfl (fun hc443 => ?_) (fun hc443 => ?_)
         ·replace hc443 := nbt hc443
          have hr444 := if_f hc443 hx426
          refine sq (rg (sto 1 (cs := [.int .i64 7]) Z37 rfl rfl rfl rfl rfl rfl rfl (on (rt_ ?_))))
          cases hr444
          refine eR 4 (some .ret) hO185 rfl fun w hS => ?_
          exact .inl ⟨_, rfl, rfl, hS.selH [1, 2, 3, 4, 5, 6] rfl⟩
         ·replace hc443 := nbf hc443
          have hr445 := if_p hc443 hx426
          refine sk (sq (rg (fb 2 U116 rfl rfl rfl rfl Z5 (ld G5 rfl rfl (((sS 0 rfl hK432).drop 2).take 1) rfl (eqI rfl rfl rfl (on ?_))))))
          obtain ⟨t449, hx450, hr451⟩ := bd_some hr445
          refine jn (fun a w => St M W H [K431, K392, K92, K89, K13, K5, H] [(6, Own.list (some ⟨b390, 0, none⟩) cap277 116 6 encErratum l287), (4, Own.blk l180 (O183 .busy none)), (5, Own.blk dB181 (.deferred (some []))), (3, cel b9 158 [.map (some b8)]), (2, Own.map' keI Value.bool b8 t449), (1, cel b7 37 [.int .i64 0])] w ∧ Has [] 35 a []) ?_ ?_
          ·refine ci rfl (fun hc452 => ?_) (fun hc452 => ?_)
           ·have hr453 := if_p hc452 hx450
            refine rg (ld G158 rfl rfl (sO 3 rfl) rfl (fb 5 U116 rfl rfl rfl rfl Z3 (ld G3 rfl rfl ((sS 0 rfl hK432).drop 5) rfl (mpU 2 (ke := keI) (enc := Value.bool) x387.new_ true U158 U3 rfl rfl rfl rfl (on ?_)))))
            cases hr453
            exact cu tv
           ·have hr454 := if_n hc452 hx450
            refine sk ?_
            cases hr454
            exact cu tv
          ·rintro a w ⟨hS, hA⟩
           refine TG.ap ?_ hS hA
           cases hr451
           refine eR 4 none hO185 rfl fun w hS => ?_
           exact .inr (⟨_, rfl, rfl, hS.selH [1, 2, 3, 4, 5, 6] rfl⟩)
        ·rintro a w v hA (⟨t428, rfl, rfl, hS⟩ | ⟨t429, rfl, rfl, hS⟩)
         ·refine putK rfl hA hS (gt' hb412 rfl (nt rfl rfl (pf hb412 rfl rfl (on (cT rfl rfl (rt_ ?_))))))
          cases hr427
          obtain rfl := Fin.out hz355
          refine TG.del 6 ?_
          cases hr351
          intro a w hS hA
          refine ret0 hA rfl ?_
          exact ⟨_, rfl, .inr (⟨_, rfl, hS.selH [1, 2, 3, 4, 5] rfl⟩)⟩
         ·refine putK rfl hA hS (gt' hb412 rfl (nt rfl rfl (pf hb412 rfl rfl (on (cF rfl rfl (sk (rg (adI rfl rfl rfl (by omega) (m1 rfl (on ?_))))))))))
          cases hr427
          intro a w hS hA
          exact ⟨_, hz355, hS.selH [1, 2, 3, 4, 5] rfl, hA.cut ⟨rfl, rfl, rfl, rfl, rfl, tv⟩⟩
      ·have hr455 := if_n hc360 hr354
       refine xt rfl ?_
       cases hr455
       obtain rfl := Fin.out hz355
       intro a w hS hA
       exact ⟨_, rfl, hS, hA.cut tv⟩
    ·rintro a w ⟨t352, rfl, hS, hA⟩
     refine TG.ap ?_ hS hA
     refine TG.del 6 ?_
     cases hr351
     intro a w hS hA
     refine ret0 hA rfl ?_
     exact ⟨_, rfl, .inl ⟨_, rfl, hS⟩⟩
  ·rintro l180 dB181 O183 tm182 a w hO185 hA (⟨t264, rfl, hS⟩ | ⟨t265, rfl, hS⟩)
   ·refine TG.ap ?_ hS hA
    refine elN 4 hO185 rfl (sq (rg (sto 1 (cs := [.int .i64 0]) Z37 rfl rfl rfl rfl rfl rfl rfl (on (rt_ ?_)))))
    cases hr263
    refine rtM (rtT 5 rfl (rt0 ?_))
    intro a w hS hA
    refine rc1 hA rfl (ResAt.cell rfl (loads1 G37 (cell_at (hS.get (t := 1) rfl)) rfl)) ?_
    exact ⟨rfl, hS.ext⟩
   ·refine TG.ap ?_ hS hA
    refine elC 4 hO185 rfl (rt_ ?_)
    cases hr263
    refine rtM (rtT 5 rfl (rt0 ?_))
    intro a w hS hA
    refine rc1 hA rfl (ResAt.cell rfl (loads1 G37 (cell_at (hS.get (t := 1) rfl)) rfl)) ?_
    exact ⟨rfl, hS.ext⟩

theorem w33 {M : Prop} {W : World} {H : Hp} (hH : H.le (hp W)) {cs_v_0 : List Value} (v_0 : Volume) (h_v_0 : (RVolume) H cs_v_0 v_0) {ad_errata : Option Addr} {cap_errata : Nat} {errata : List Erratum} (h_errata : Sl (Flat encErratum) 6 H ad_errata cap_errata errata) {r : Int} (hr : m33 v_0 errata = some r) : Calls Tryz.prog 33 [.agg cs_v_0.toArray, .slice ad_errata errata.length cap_errata].toArray W (RetS M W (.int .i64 r)) := by
 have hh_v_0 := h_v_0
 obtain ⟨ad1, cap2, rfl, hl3⟩ := h_v_0
 have := hl3.len
 have := h_errata.len
 unfold m33 at hr
 refine enterG (M := M) Tryz.func33 rfl Tryz.ntmps33 rfl hH ?_
 refine sq (rg (bI (cs := [.int .i64 v_0.number, .int .i64 v_0.bound, .int .i64 v_0.height, .int .i64 v_0.width, .slice ad1 v_0.parts.length cap2]) rfl rfl rfl fun q4 K5 hK6 => (a1 rfl (on (sq (sq (rg (ldA G42 Z42 rfl rfl (sS 0 rfl hK6) rfl ?_))))))))
 obtain ⟨r7, hx8, hr9⟩ := bd_some hr
 refine clS C50 rfl rfl rfl rfl (fun w H hH le => w50 hH v_0 (RVolume.mono _ _ _ _ (le.at 1 rfl) hh_v_0) hx8) (a1 rfl (on (sq (rg (m1 rfl (neI rfl rfl rfl (on ?_)))))))
 refine ci rfl (fun hc13 => ?_) (fun hc13 => ?_)
 ·have hr14 := if_p hc13 hr9
  refine sq (rg (m1 rfl (a1 rfl (on (rt_ ?_)))))
  cases hr14
  intro a w hS hA
  refine ret1 hA rfl rfl ?_
  exact ⟨rfl, hS.ext⟩
 ·have hr15 := if_n hc13 hr9
  refine sk (sq (bk (sq (rg (m1 rfl (lnL U44 rfl rfl (gtI rfl rfl rfl (a1 rfl (on ?_)))))))))
  refine ci rfl (fun hc36 => ?_) (fun hc36 => ?_)
  ·have hr37 := if_p hc36 hr15
   refine sq (rg (a1 rfl (on (rt_ ?_))))
   cases hr37
   intro a w hS hA
   refine ret1 hA rfl rfl ?_
   exact ⟨rfl, hS.ext⟩
  ·have hr38 := if_n hc36 hr15
   refine sq (rg (m1 rfl ?_))
   obtain ⟨r40, hx41, hr42⟩ := bd_some hr38
   refine clS (v := .bool r40) C51 rfl rfl rfl rfl (fun w H hH le => by
     have hf39 : FnV M Tryz.prog H (.func (.func 52) [].toArray [].toArray) (SF1 (Va encErratum) Value.bool (m52)) := ⟨52, [], [], rfl, C52, fun w_ K_ args_ v_ hK hw hs => by obtain ⟨u0_, x0_, r_, rfl, h0_, hx, rfl⟩ := hs; cases h0_; exact w52  x0_ rfl  hx⟩
     exact w51 hH (h_errata.mono (Flat.mono _) (le.at 1 rfl)) (right := (m52)) hf39 hx41) ?_
   refine nt rfl rfl (a1 rfl (on ?_))
   refine cb rfl (fun hc46 => ?_) (fun hc46 => ?_)
   ·replace hc46 := nbt hc46
    have hr47 := if_f hc46 hr42
    refine sq (rg (a1 rfl (on (rt_ ?_))))
    cases hr47
    intro a w hS hA
    refine ret1 hA rfl rfl ?_
    exact ⟨rfl, hS.ext⟩
   ·replace hc46 := nbf hc46
    have hr48 := if_p hc46 hr42
    refine sk (sq (rg (mkM 1 keI Value.bool rfl fun b49 => (mkM 2 keI Value.bool rfl fun b50 => (a1 rfl (a1 rfl (on (sq (sq (rg (ldA G42 Z42 rfl rfl (sS 0 rfl hK6) rfl ?_)))))))))))
    obtain ⟨r51, hx52, hr53⟩ := bd_some hr48
    refine clK C53 rfl rfl rfl rfl (fun w H hH le => w53 hH v_0 (RVolume.mono _ _ _ _ (le.at 1 rfl) hh_v_0) hx52) ?_
    rintro v_ K54 ⟨ad55, cap56, rfl, hl57⟩
    have := hl57.len
    refine lnL U36 rfl rfl (m1 rfl (on ?_))
    obtain ⟨e88, hl89, hr90⟩ := bd_some hr53
    refine jn (fun a w => St M W H [K54, K5, H] [(2, Own.map' keI Value.bool b50 ([] : List (Int × Bool))), (1, Own.map' keI Value.bool b49 e88)] w ∧ Has [] 72 a [(1, .slice ad_errata errata.length cap_errata), (2, .pointer (some q4)), (6, .map (some b49)), (7, .map (some b50))]) ?_ ?_
    ·refine bk ?_
     refine lp hl89 (fun s91 a w => St M W H [K54, K5, H] [(2, Own.map' keI Value.bool b50 ([] : List (Int × Bool))), (1, Own.map' keI Value.bool b49 s91.2)] w ∧ Has [] 72 a [(1, .slice ad_errata errata.length cap_errata), (2, .pointer (some q4)), (6, .map (some b49)), (7, .map (some b50)), (28, .slice ad55 r51.length cap56), (29, .int .i64 (r51.length : Int)), (30, .int .i64 (s91.1 : Int))]) ?_ ?_
     ·exact cu ⟨rfl, rfl, rfl, rfl, rfl, rfl, rfl, tv⟩
     ·rintro j s91 y94 hr92 hz93 a w ⟨hS, hA⟩
      refine TG.ap ?_ hS hA
      unfold m33_1 at hr92
      refine sq (rg (ltI rfl rfl rfl (on (sq ?_))))
      refine ci rfl (fun hc98 => ?_) (fun hc98 => ?_)
      ·have hr99 := if_p hc98 hr92
       refine sk (sq (bk (sq (rg ?_))))
       obtain ⟨x111, hx112, hr113⟩ := bd_some hr99
       obtain ⟨p114, rfl⟩ := hl57.adr hx112
       obtain ⟨cs115, hcs116, hq117, hr118⟩ := hl57.at hx112
       obtain rfl := hr118
       refine iaP U36 Z52 rfl rfl rfl rfl (lt_of hx112) (ldA G52 Z52 rfl rfl (sS 0 rfl hq117) rfl (va (cs := [.int .i64 x111.anchor, .string (bs x111.text)]) Tryz.zeroValue52 Z52 rfl rfl rfl rfl rfl rfl rfl rfl fun q119 K120 hK121 => (on (rg (m1 rfl (fb 0 U52 rfl rfl rfl rfl Z3 (ld G3 rfl rfl ((sS 0 rfl hK121).take 1) rfl (mpU 1 (ke := keI) (enc := Value.bool) x111.anchor true U158 U3 rfl rfl rfl rfl (on (rg (adI rfl rfl rfl (by omega) ?_)))))))))))
       refine m1 rfl (on ?_)
       cases hr113
       intro a w hS hA
       exact ⟨_, hz93, hS.selH [1, 2, 3] rfl, hA.cut ⟨rfl, rfl, rfl, rfl, rfl, rfl, rfl, tv⟩⟩
      ·have hr122 := if_n hc98 hr92
       refine xt rfl ?_
       cases hr122
       obtain rfl := Fin.out hz93
       exact cu ⟨rfl, rfl, rfl, rfl, tv⟩
    ·rintro a w ⟨hS, hA⟩
     refine TG.ap ?_ hS hA
     refine sq (sq (rg (m1 rfl (lnL U44 rfl rfl (m1 rfl (on ?_))))))
     obtain ⟨e181, hl182, hr183⟩ := bd_some hr90
     refine jn (fun a w => ∃ t184, e181 = .inl t184 ∧ St M W H [K54, K5, H] [(2, Own.map' keI Value.bool b50 t184.1), (1, Own.map' keI Value.bool b49 t184.2)] w ∧ Has [] 72 a [(1, .slice ad_errata errata.length cap_errata), (2, .pointer (some q4))]) ?_ ?_
     ·refine bk ?_
      refine lp hl182 (fun s185 a w => St M W H [K54, K5, H] [(2, Own.map' keI Value.bool b50 s185.2.1), (1, Own.map' keI Value.bool b49 s185.2.2)] w ∧ Has [] 72 a [(1, .slice ad_errata errata.length cap_errata), (2, .pointer (some q4)), (6, .map (some b49)), (7, .map (some b50)), (38, .slice ad_errata errata.length cap_errata), (39, .int .i64 (errata.length : Int)), (40, .int .i64 (s185.1 : Int))]) ?_ ?_
      ·exact cu ⟨rfl, rfl, rfl, rfl, rfl, rfl, rfl, tv⟩
      ·rintro j s185 y188 hr186 hz187 a w ⟨hS, hA⟩
       refine TG.ap ?_ hS hA
       unfold m33_2 at hr186
       refine sq (rg (ltI rfl rfl rfl (on (sq ?_))))
       refine ci rfl (fun hc192 => ?_) (fun hc192 => ?_)
       ·have hr193 := if_p hc192 hr186
        refine sk (sq (bk (sq (rg ?_))))
        obtain ⟨x219, hx220, hr221⟩ := bd_some hr193
        obtain ⟨p222, rfl⟩ := h_errata.adr hx220
        obtain ⟨cs223, hcs224, hq225, hr226⟩ := h_errata.at hx220
        obtain rfl := hr226
        refine iaP U44 Z116 rfl rfl rfl rfl (lt_of hx220) (ldA G116 Z116 rfl rfl (sS 2 rfl hq225) rfl (va (cs := [.int .i64 x219.number, .int .i64 x219.day, .int .u8 x219.kind, .int .i64 x219.anchor, .string (bs x219.text), .int .i64 x219.new_]) Tryz.zeroValue116 Z116 rfl rfl rfl rfl rfl rfl rfl rfl fun q227 K228 hK229 => (on (sq (sq ?_)))))
        obtain ⟨t236, hx237, hr238⟩ := bd_some hr221
        refine jn (fun a w => St M W H [K228, K54, K5, H] [(2, Own.map' keI Value.bool b50 s185.2.1), (1, Own.map' keI Value.bool b49 s185.2.2)] w ∧ Has [] 72 a [(1, .slice (some p222) errata.length cap_errata), (2, .pointer (some q4)), (6, .map (some b49)), (7, .map (some b50)), (11, .pointer (some q227)), (38, .slice (some p222) errata.length cap_errata), (39, .int .i64 (errata.length : Int)), (40, .int .i64 (s185.1 : Int)), (58, .bool t236)]) ?_ ?_
        ·refine rg (m1 rfl (fb 0 U116 rfl rfl rfl rfl Z3 (ld G3 rfl rfl ((sS 0 rfl hK229).take 1) rfl (lk1 (ke := keI) (enc := Value.bool) x219.number (z0 := false) U158 U3 Tryz.zeroValue4 rfl rfl rfl rfl (mO 2 rfl) (m1 rfl ?_)))))
         rcases Bool.eq_false_or_eq_true ((lkp s185.2.1 x219.number).getD false) with hb239 | hb239
         ·have hr240 := if_p hb239 hx237
          refine gF rfl rfl (hb239) rfl (gF rfl rfl (hb239) rfl (gF rfl rfl (hb239) rfl (gF rfl rfl (hb239) rfl (gU rfl rfl rfl (gU rfl rfl rfl (gU rfl rfl rfl (gU rfl rfl rfl (gF rfl rfl (hb239) rfl (pT rfl rfl (hb239) rfl (on ?_))))))))))
          cases hr240
          exact cu ⟨rfl, rfl, rfl, rfl, rfl, rfl, rfl, rfl, rfl, tv⟩
         ·have hr241 := if_f hb239 hx237
          refine gN rfl rfl (hb239) (fb 2 U116 rfl rfl rfl rfl Z5 (gN rfl rfl (hb239) (ld G5 rfl rfl (((sS 0 rfl hK229).drop 2).take 1) rfl (gN rfl rfl (hb239) (eqI rfl rfl rfl (gN rfl rfl (hb239) (m1 rfl ?_)))))))
          by_cases hb242 : x219.kind = 2
          ·have hr243 := if_p hb242 hr241
           refine gt hb242 rfl (m1 rfl (gt hb242 rfl (fb 5 U116 rfl rfl rfl rfl Z3 (gt hb242 rfl (ld G3 rfl rfl ((sS 0 rfl hK229).drop 5) rfl (gt hb242 rfl (lk1 (ke := keI) (enc := Value.bool) x219.new_ (z0 := false) U158 U3 Tryz.zeroValue4 rfl rfl rfl rfl (mO 1 rfl) (gN rfl rfl (hb239) (pt hb242 rfl rfl (pF rfl rfl (hb239) rfl (on ?_)))))))))))
           cases hr243
           exact cu ⟨rfl, rfl, rfl, rfl, rfl, rfl, rfl, rfl, rfl, tv⟩
          ·have hr244 := if_n hb242 hr241
           refine gf hb242 rfl (gf hb242 rfl (gf hb242 rfl (gf hb242 rfl (gN rfl rfl (hb239) (pf hb242 rfl rfl (pF rfl rfl (hb239) rfl (on ?_)))))))
           cases hr244
           exact cu ⟨rfl, rfl, rfl, rfl, rfl, rfl, rfl, rfl, rfl, tv⟩
        ·rintro a w ⟨hS, hA⟩
         refine TG.ap ?_ hS hA
         refine cb rfl (fun hc248 => ?_) (fun hc248 => ?_)
         ·have hr249 := if_p hc248 hr238
          refine sq (rg (a1 rfl (on (rt_ ?_))))
          cases hr249
          obtain rfl := Fin.out hz187
          cases hr183
          intro a w hS hA
          refine ret1 hA rfl rfl ?_
          exact ⟨rfl, hS.ext⟩
         ·have hr250 := if_f hc248 hr238
          refine sk (sq (rg (m1 rfl (fb 0 U116 rfl rfl rfl rfl Z3 (ld G3 rfl rfl ((sS 0 rfl hK229).take 1) rfl (mpU 2 (ke := keI) (enc := Value.bool) x219.number true U158 U3 rfl rfl rfl rfl (on (sq (rg (fb 2 U116 rfl rfl rfl rfl Z5 (ld G5 rfl rfl (((sS 0 rfl hK229).drop 2).take 1) rfl ?_)))))))))))
          refine eqI rfl rfl rfl (on ?_)
          obtain ⟨t254, hx255, hr256⟩ := bd_some hr250
          refine jn (fun a w => St M W H [K228, K54, K5, H] [(2, Own.map' keI Value.bool b50 (put s185.2.1 x219.number true)), (1, Own.map' keI Value.bool b49 t254)] w ∧ Has [] 72 a [(1, .slice (some p222) errata.length cap_errata), (2, .pointer (some q4)), (6, .map (some b49)), (7, .map (some b50)), (38, .slice (some p222) errata.length cap_errata), (39, .int .i64 (errata.length : Int)), (40, .int .i64 (s185.1 : Int))]) ?_ ?_
          ·refine ci rfl (fun hc257 => ?_) (fun hc257 => ?_)
           ·have hr258 := if_p hc257 hx255
            refine rg (m1 rfl (fb 5 U116 rfl rfl rfl rfl Z3 (ld G3 rfl rfl ((sS 0 rfl hK229).drop 5) rfl (mpU 1 (ke := keI) (enc := Value.bool) x219.new_ true U158 U3 rfl rfl rfl rfl (on ?_)))))
            cases hr258
            exact cu ⟨rfl, rfl, rfl, rfl, rfl, rfl, rfl, tv⟩
           ·have hr259 := if_n hc257 hx255
            refine sk ?_
            cases hr259
            exact cu ⟨rfl, rfl, rfl, rfl, rfl, rfl, rfl, tv⟩
          ·rintro a w ⟨hS, hA⟩
           refine TG.ap ?_ hS hA
           refine rg (adI rfl rfl rfl (by omega) (m1 rfl (on ?_)))
           cases hr256
           intro a w hS hA
           exact ⟨_, hz187, hS.selH [1, 2, 3] rfl, hA.cut ⟨rfl, rfl, rfl, rfl, rfl, rfl, rfl, tv⟩⟩
       ·have hr260 := if_n hc192 hr186
        refine xt rfl ?_
        cases hr260
        obtain rfl := Fin.out hz187
        intro a w hS hA
        exact ⟨_, rfl, hS, hA.cut ⟨rfl, rfl, tv⟩⟩
     ·rintro a w ⟨t184, rfl, hS, hA⟩
      refine TG.ap ?_ hS hA
      refine sq (rg (ldA G42 Z42 rfl rfl (sS 1 rfl hK6) rfl (m1 rfl ?_)))
      obtain ⟨r261, hx262, hr263⟩ := bd_some hr183
      refine clS C54 rfl rfl rfl rfl (fun w H hH le => w54 hH v_0 (RVolume.mono _ _ _ _ (le.at 2 rfl) hh_v_0) (h_errata.mono (Flat.mono _) (le.at 2 rfl)) hx262) (a1 rfl (on (rt_ ?_)))
      cases hr263
      intro a w hS hA
      refine ret1 hA rfl rfl ?_
      exact ⟨rfl, hS.ext⟩

theorem w56 {M : Prop} {W : World} {H : Hp} (hH : H.le (hp W)) {q_b_0 : Addr} {cs_b_0 : List Value} (b_0 : edition) (hc_b_0 : CellsAt H q_b_0 cs_b_0) (h_b_0 : (Redition) H cs_b_0 b_0) (anchor : Int) {r : Int × Int × Bool} (hr : m56 b_0 anchor = some r) : Calls Tryz.prog 56 [.pointer (some q_b_0), .int .i64 anchor].toArray W (RetS M W (.tuple [.int .i64 r.1, .int .i64 r.2.1, .bool r.2.2].toArray)) := by
 have hh_b_0 := h_b_0
 obtain ⟨ad1, cap2, ad4, cap5, rfl, hl3, hl6⟩ := h_b_0
 have := hl3.len
 have := hl6.len
 unfold m56 at hr
 refine enterG (M := M) Tryz.func56 rfl Tryz.ntmps56 rfl hH ?_
 refine sq (rg (a1 rfl (a1 rfl (a1 rfl (on (sc (sq (lb (sq (sq (rg ?_)))))))))))
 refine m1 rfl (nl rfl rfl (fb 5 U110 rfl rfl rfl rfl Z108 (ld G108 rfl rfl ((sS 0 rfl hc_b_0).drop 5) rfl (lnL U108 rfl rfl (m1 rfl (on ?_))))))
 obtain ⟨e40, hl41, hr42⟩ := bd_some hr
 refine jn (fun a w => St M W H [H] [] w ∧ Has [] 40 a [(4, .int .i64 (e40.1 : Int)), (5, .int .i64 (e40.2.1 : Int)), (6, .bool e40.2.2)]) ?_ ?_
 ·refine bk ?_
  refine lp hl41 (fun s43 a w => St M W H [H] [] w ∧ Has [] 40 a [(1, .int .i64 anchor), (4, .int .i64 (s43.1 : Int)), (5, .int .i64 (s43.2.1 : Int)), (6, .bool s43.2.2.2), (14, .slice ad4 b_0.parts.length cap5), (15, .int .i64 (b_0.parts.length : Int)), (16, .int .i64 (s43.2.2.1 : Int))]) ?_ ?_
  ·exact cu ⟨rfl, rfl, rfl, rfl, rfl, rfl, rfl, tv⟩
  ·rintro j s43 y46 hr44 hz45 a w ⟨hS, hA⟩
   refine TG.ap ?_ hS hA
   unfold m56_1 at hr44
   refine sq (rg (ltI rfl rfl rfl (on (sq ?_))))
   refine ci rfl (fun hc50 => ?_) (fun hc50 => ?_)
   ·have hr51 := if_p hc50 hr44
    refine sk (sq (bk (sq (rg (m1 rfl ?_)))))
    obtain ⟨x81, hx82, hr83⟩ := bd_some hr51
    obtain ⟨p84, rfl⟩ := hl6.adr hx82
    obtain ⟨cs85, hcs86, hq87, hr88⟩ := hl6.at hx82
    have hr89 := hr88
    obtain ⟨ad90, cap91, rfl, hl92⟩ := hr88
    have := hl92.len
    refine iaP U108 Z113 rfl rfl rfl rfl (lt_of hx82) (ld G113 rfl rfl (sS 0 rfl hq87) rfl (a1 rfl (a1 rfl (on (sq (rg (m1 rfl (lnL U113 rfl rfl (m1 rfl (on ?_))))))))))
    obtain ⟨e109, hl110, hr111⟩ := bd_some hr83
    refine jn (fun a w => ∃ t112, e109 = .inl t112 ∧ St M W H [H] [] w ∧ Has [] 40 a [(1, .int .i64 anchor), (4, .int .i64 (t112.1 : Int)), (5, .int .i64 (t112.2.1 : Int)), (6, .bool t112.2.2), (14, .slice (some p84) b_0.parts.length cap5), (15, .int .i64 (b_0.parts.length : Int)), (16, .int .i64 (s43.2.2.1 : Int))]) ?_ ?_
    ·refine bk ?_
     refine lp hl110 (fun s113 a w => St M W H [H] [] w ∧ Has [] 40 a [(1, .int .i64 anchor), (4, .int .i64 (s113.1 : Int)), (5, .int .i64 (s113.2.1 : Int)), (6, .bool s113.2.2.2), (7, .int .i64 (s43.2.2.1 : Int)), (14, .slice (some p84) b_0.parts.length cap5), (15, .int .i64 (b_0.parts.length : Int)), (16, .int .i64 (s43.2.2.1 : Int)), (21, .slice ad90 x81.length cap91), (22, .int .i64 (x81.length : Int)), (23, .int .i64 (s113.2.2.1 : Int))]) ?_ ?_
     ·exact cu ⟨rfl, rfl, rfl, rfl, rfl, rfl, rfl, rfl, rfl, rfl, rfl, tv⟩
     ·rintro j s113 y116 hr114 hz115 a w ⟨hS, hA⟩
      refine TG.ap ?_ hS hA
      unfold m56_2 at hr114
      refine sq (rg (ltI rfl rfl rfl (on (sq ?_))))
      refine ci rfl (fun hc120 => ?_) (fun hc120 => ?_)
      ·have hr121 := if_p hc120 hr114
       refine sk (sq (bk (sq (rg (m1 rfl ?_)))))
       obtain ⟨x134, hx135, hr136⟩ := bd_some hr121
       obtain ⟨p137, rfl⟩ := hl92.adr hx135
       obtain ⟨cs138, hcs139, hq140, hr141⟩ := hl92.at hx135
       obtain rfl := hr141
       refine iaP U113 Z115 rfl rfl rfl rfl (lt_of hx135) (ldA G115 Z115 rfl rfl (sS 0 rfl hq140) rfl (al 1 (cs := [.int .i64 0, .string (bs []), .bool false]) Tryz.zeroValue115 rfl rfl fun b142 => (a1 rfl (sto 1 (cs := [.int .i64 x134.paragraph.anchor, .string (bs x134.paragraph.text), .bool x134.removed]) Z115 rfl rfl rfl rfl rfl rfl rfl (on (sq (rg (fb 0 U115 rfl rfl rfl rfl Z52 (fb 0 U52 rfl rfl rfl rfl Z3 (ld G3 rfl rfl ((sO 1 rfl).take 1) rfl (m1 rfl ?_)))))))))))
       refine eqI rfl rfl rfl (on ?_)
       refine ci rfl (fun hc146 => ?_) (fun hc146 => ?_)
       ·have hr147 := if_p hc146 hr136
        refine sq (rg (m1 rfl (m1 rfl (a1 rfl (a1 rfl (a1 rfl (on (xt rfl ?_))))))))
        obtain ⟨z148, hr149, rfl⟩ := mp_some hr147
        obtain rfl := Fin.out hz115
        cases hr111
        refine TG.del 1 ?_
        cases hr149
        obtain rfl := Fin.out hz45
        exact cu ⟨rfl, rfl, rfl, tv⟩
       ·have hr150 := if_n hc146 hr136
        refine sk (rg (adI rfl rfl rfl (by omega) (m1 rfl (on (TG.del 1 ?_)))))
        cases hr150
        intro a w hS hA
        exact ⟨_, hz115, hS, hA.cut ⟨rfl, rfl, rfl, rfl, rfl, rfl, rfl, rfl, rfl, rfl, rfl, tv⟩⟩
      ·have hr151 := if_n hc120 hr114
       refine xt rfl ?_
       cases hr151
       obtain rfl := Fin.out hz115
       intro a w hS hA
       exact ⟨_, rfl, hS, hA.cut ⟨rfl, rfl, rfl, rfl, rfl, rfl, rfl, tv⟩⟩
    ·rintro a w ⟨t112, rfl, hS, hA⟩
     refine TG.ap ?_ hS hA
     refine rg (adI rfl rfl rfl (by omega) (m1 rfl (on ?_)))
     cases hr111
     intro a w hS hA
     exact ⟨_, hz45, hS, hA.cut ⟨rfl, rfl, rfl, rfl, rfl, rfl, rfl, tv⟩⟩
   ·have hr152 := if_n hc50 hr44
    refine xt rfl ?_
    cases hr152
    obtain rfl := Fin.out hz45
    exact cu ⟨rfl, rfl, rfl, tv⟩
 ·rintro a w ⟨hS, hA⟩
  refine TG.ap ?_ hS hA
  refine sq (rg (m1 rfl (m1 rfl (m1 rfl (a1 rfl (a1 rfl (a1 rfl (on (rt_ ?_)))))))))
  cases hr42
  intro a w hS hA
  refine ret3 hA rfl rfl rfl rfl ?_
  exact ⟨rfl, hS.ext⟩

theorem w57 {M : Prop} {W : World} {H : Hp} (hH : H.le (hp W))  {r : Unit} (hr : m57 = some r) : Calls Tryz.prog 57 [].toArray W (RetK M H W (fun v K => ∃ (q0 : Addr), v = .slice (some q0) 3 3 ∧ CellsAt K q0 [.func (.func 89) [].toArray [].toArray, .func (.func 90) [].toArray [].toArray, .func (.func 91) [].toArray [].toArray])) := by
 unfold m57 at hr
 refine enterG (M := M) Tryz.func57 rfl Tryz.ntmps57 rfl hH ?_
 refine sq (rg (a1 rfl (on (sq (rg (bu (cs := [.func (.func 89) [].toArray [].toArray]) T10.B168 rfl rfl rfl (bu (cs := [.func (.func 90) [].toArray [].toArray]) T10.B168 rfl rfl rfl (bu (cs := [.func (.func 91) [].toArray [].toArray]) T10.B168 rfl rfl rfl (bS (cs := [.func (.func 89) [].toArray [].toArray, .func (.func 90) [].toArray [].toArray, .func (.func 91) [].toArray [].toArray]) T10.E169 rfl rfl rfl rfl fun q1 K2 hq3 hK4 => (a1 rfl (on ?_)))))))))))
 refine rt_ ?_
 obtain rfl := sj hr
 intro a w hS hA
 refine ret1 hA rfl rfl ?_
 exact ⟨⟨_, rfl, hK4.mono (hS.grow 0 rfl)⟩, hS.ext⟩

end T10
