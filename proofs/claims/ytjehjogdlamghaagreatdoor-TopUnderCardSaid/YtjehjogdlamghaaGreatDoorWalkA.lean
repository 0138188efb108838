/-
 Walks of functions of a volume and an index: each call comes to what the model says. Printed by a program of ours.
-/
import Derived.Test.YtjehjogdlamghaaGreatDoorMade
set_option linter.all false
set_option maxHeartbeats 4000000
namespace T10
open Go Go.Proofs Pk
theorem w5 {M : Prop} {W : World} {H : Hp} (hH : H.le (hp W)) {cs_v_0 : List Value} (v_0 : Volume) (h_v_0 : (RVolume) H cs_v_0 v_0) {ad_errata : Option Addr} {cap_errata : Nat} {errata : List Erratum} (h_errata : Sl (Flat encErratum) 6 H ad_errata cap_errata errata) {r : Bool} (hr : m5 v_0 errata = some r) : Calls Tryz.prog 5 [.agg cs_v_0.toArray, .slice ad_errata errata.length cap_errata].toArray W (RetS M W (.bool r)) := by
 have hh_v_0 := h_v_0
 obtain ⟨ad1, cap2, rfl, hl3⟩ := h_v_0
 have := hl3.len
 have := h_errata.len
 unfold m5 at hr
 refine enterG (M := M) Tryz.func5 rfl Tryz.ntmps5 rfl hH ?_
 refine sq (rg (bI (cs := [.int .i64 v_0.number, .int .i64 v_0.bound, .int .i64 v_0.height, .int .i64 v_0.width, .slice ad1 v_0.parts.length cap2]) rfl rfl rfl fun q4 K5 hK6 => (a1 rfl (on (sq (sq (rg (a1 rfl (on ?_)))))))))
 obtain ⟨e42, hl43, hr44⟩ := bd_some hr
 refine jn (fun a w => ∃ t45, e42 = .inl t45 ∧ St M W H [K5, H] [] w ∧ Has [] 68 a [(1, .slice ad_errata errata.length cap_errata), (2, .pointer (some q4))]) ?_ ?_
 ·refine bk ?_
  refine lp hl43 (fun s46 a w => St M W H [K5, H] [] w ∧ Has [] 68 a [(1, .slice ad_errata errata.length cap_errata), (2, .pointer (some q4)), (5, .int .i64 (s46 : Int))]) ?_ ?_
  ·exact cu ⟨rfl, rfl, rfl, tv⟩
  ·rintro j s46 y49 hr47 hz48 a w ⟨hS, hA⟩
   refine TG.ap ?_ hS hA
   unfold m5_1 at hr47
   refine sq (sq (rg (m1 rfl (fb 4 U24 rfl rfl rfl rfl Z22 (ld G22 rfl rfl ((sS 0 rfl hK6).drop 4) rfl (lnL U22 rfl rfl (ltI rfl rfl rfl (on ?_))))))))
   refine ci rfl (fun hc53 => ?_) (fun hc53 => ?_)
   ·have hr54 := if_p hc53 hr47
    refine sk (sq (bk (sq (sq (rg (fb 4 U24 rfl rfl rfl rfl Z22 (ld G22 rfl rfl ((sS 0 rfl hK6).drop 4) rfl (m1 rfl ?_))))))))
    obtain ⟨x86, hx87, hr88⟩ := bd_some hr54
    obtain ⟨p89, rfl⟩ := hl3.adr hx87
    obtain ⟨cs90, hcs91, hq92, hr93⟩ := hl3.at hx87
    have hr94 := hr93
    obtain ⟨ad95, cap96, rfl, hl97⟩ := hr93
    have := hl97.len
    refine iaP U22 Z94 rfl rfl rfl rfl (lt_of hx87) (fb 1 U94 rfl rfl rfl rfl Z92 (ld G92 rfl rfl ((sS 1 rfl hq92).drop 1) rfl (lnL U92 rfl rfl (gtI rfl rfl rfl (on ?_)))))
    refine ci rfl (fun hc101 => ?_) (fun hc101 => ?_)
    ·have hr102 := if_p hc101 hr88
     refine sq (rg (a1 rfl (on (rt_ ?_))))
     cases hr102
     obtain rfl := Fin.out hz48
     cases hr44
     intro a w hS hA
     refine ret1 hA rfl rfl ?_
     exact ⟨rfl, hS.ext⟩
    ·have hr103 := if_n hc101 hr88
     refine sk (sq (rg (a1 rfl (on ?_))))
     obtain ⟨e119, hl120, hr121⟩ := bd_some hr103
     refine jn (fun a w => ∃ t122, e119 = .inl t122 ∧ St M W H [K5, H] [] w ∧ Has [] 68 a [(1, .slice ad_errata errata.length cap_errata), (2, .pointer (some q4)), (5, .int .i64 (s46 : Int))]) ?_ ?_
     ·refine bk ?_
      refine lp hl120 (fun s123 a w => St M W H [K5, H] [] w ∧ Has [] 68 a [(1, .slice ad_errata errata.length cap_errata), (2, .pointer (some q4)), (5, .int .i64 (s46 : Int)), (6, .int .i64 (s123 : Int))]) ?_ ?_
      ·exact cu ⟨rfl, rfl, rfl, rfl, tv⟩
      ·rintro j s123 y126 hr124 hz125 a w ⟨hS, hA⟩
       refine TG.ap ?_ hS hA
       unfold m5_2 at hr124
       refine sq (sq (rg (m1 rfl (fb 4 U24 rfl rfl rfl rfl Z22 (ld G22 rfl rfl ((sS 0 rfl hK6).drop 4) rfl (m1 rfl (iaP U22 Z94 rfl rfl rfl rfl (lt_of hx87) (fb 1 U94 rfl rfl rfl rfl Z92 (ld G92 rfl rfl ((sS 1 rfl hq92).drop 1) rfl (lnL U92 rfl rfl (ltI rfl rfl rfl ?_)))))))))))
       refine on ?_
       refine ci rfl (fun hc130 => ?_) (fun hc130 => ?_)
       ·have hr131 := if_p hc130 hr124
        refine sk (sq (bk (sq (rg (fb 4 U24 rfl rfl rfl rfl Z22 (ld G22 rfl rfl ((sS 0 rfl hK6).drop 4) rfl (m1 rfl (iaP U22 Z94 rfl rfl rfl rfl (lt_of hx87) (fb 1 U94 rfl rfl rfl rfl Z92 (ld G92 rfl rfl ((sS 1 rfl hq92).drop 1) rfl (m1 rfl ?_)))))))))))
        obtain ⟨x143, hx144, hr145⟩ := bd_some hr131
        obtain ⟨p146, rfl⟩ := hl97.adr hx144
        obtain ⟨cs147, hcs148, hq149, hr150⟩ := hl97.at hx144
        obtain rfl := hr150
        refine iaP U92 Z95 rfl rfl rfl rfl (lt_of hx144) (fb 1 U95 rfl rfl rfl rfl Z9 (ld G9 rfl rfl ((sS 1 rfl hq149).drop 1) rfl (lnS U9 rfl rfl (gtI rfl rfl rfl (on ?_)))))
        refine ci rfl (fun hc154 => ?_) (fun hc154 => ?_)
        ·have hr155 := if_p hc154 hr145
         refine sq (rg (a1 rfl (on (rt_ ?_))))
         cases hr155
         obtain rfl := Fin.out hz125
         cases hr121
         obtain rfl := Fin.out hz48
         cases hr44
         intro a w hS hA
         refine ret1 hA rfl rfl ?_
         exact ⟨rfl, hS.ext⟩
        ·have hr156 := if_n hc154 hr145
         refine sk (rg (m1 rfl (adI rfl rfl rfl (by omega) (a1 rfl (on ?_)))))
         cases hr156
         intro a w hS hA
         exact ⟨_, hz125, hS, hA.cut ⟨rfl, rfl, rfl, rfl, tv⟩⟩
       ·have hr157 := if_n hc130 hr124
        refine xt rfl ?_
        cases hr157
        obtain rfl := Fin.out hz125
        intro a w hS hA
        exact ⟨_, rfl, hS, hA.cut ⟨rfl, rfl, rfl, tv⟩⟩
     ·rintro a w ⟨t122, rfl, hS, hA⟩
      refine TG.ap ?_ hS hA
      refine rg (m1 rfl (adI rfl rfl rfl (by omega) (a1 rfl (on ?_))))
      cases hr121
      intro a w hS hA
      exact ⟨_, hz48, hS, hA.cut ⟨rfl, rfl, rfl, tv⟩⟩
   ·have hr158 := if_n hc53 hr47
    refine xt rfl ?_
    cases hr158
    obtain rfl := Fin.out hz48
    intro a w hS hA
    exact ⟨_, rfl, hS, hA.cut ⟨rfl, rfl, tv⟩⟩
 ·rintro a w ⟨t45, rfl, hS, hA⟩
  refine TG.ap ?_ hS hA
  refine sq (sq (rg (a1 rfl (on ?_))))
  obtain ⟨e174, hl175, hr176⟩ := bd_some hr44
  refine jn (fun a w => ∃ t177, e174 = .inl t177 ∧ St M W H [K5, H] [] w ∧ Has [] 68 a [(1, .slice ad_errata errata.length cap_errata), (2, .pointer (some q4))]) ?_ ?_
  ·refine bk ?_
   refine lp hl175 (fun s178 a w => St M W H [K5, H] [] w ∧ Has [] 68 a [(1, .slice ad_errata errata.length cap_errata), (2, .pointer (some q4)), (7, .int .i64 (s178 : Int))]) ?_ ?_
   ·exact cu ⟨rfl, rfl, rfl, tv⟩
   ·rintro j s178 y181 hr179 hz180 a w ⟨hS, hA⟩
    refine TG.ap ?_ hS hA
    unfold m5_3 at hr179
    refine sq (sq (rg (m1 rfl (m1 rfl (lnL U25 rfl rfl (ltI rfl rfl rfl (on ?_)))))))
    refine ci rfl (fun hc185 => ?_) (fun hc185 => ?_)
    ·have hr186 := if_p hc185 hr179
     refine sk (sq (bk (sq (rg (m1 rfl (m1 rfl ?_))))))
     obtain ⟨x198, hx199, hr200⟩ := bd_some hr186
     obtain ⟨p201, rfl⟩ := h_errata.adr hx199
     obtain ⟨cs202, hcs203, hq204, hr205⟩ := h_errata.at hx199
     obtain rfl := hr205
     refine iaP U25 Z97 rfl rfl rfl rfl (lt_of hx199) (fb 4 U97 rfl rfl rfl rfl Z9 (ld G9 rfl rfl (((sS 1 rfl hq204).drop 4).take 1) rfl (lnS U9 rfl rfl (gtI rfl rfl rfl (on ?_)))))
     refine ci rfl (fun hc209 => ?_) (fun hc209 => ?_)
     ·have hr210 := if_p hc209 hr200
      refine sq (rg (a1 rfl (on (rt_ ?_))))
      cases hr210
      obtain rfl := Fin.out hz180
      cases hr176
      intro a w hS hA
      refine ret1 hA rfl rfl ?_
      exact ⟨rfl, hS.ext⟩
     ·have hr211 := if_n hc209 hr200
      refine sk (rg (m1 rfl (adI rfl rfl rfl (by omega) (a1 rfl (on ?_)))))
      cases hr211
      intro a w hS hA
      exact ⟨_, hz180, hS, hA.cut ⟨rfl, rfl, rfl, tv⟩⟩
    ·have hr212 := if_n hc185 hr179
     refine xt rfl ?_
     cases hr212
     obtain rfl := Fin.out hz180
     intro a w hS hA
     exact ⟨_, rfl, hS, hA.cut ⟨rfl, rfl, tv⟩⟩
  ·rintro a w ⟨t177, rfl, hS, hA⟩
   refine TG.ap ?_ hS hA
   refine sq ?_
   obtain ⟨t216, hx217, hr218⟩ := bd_some hr176
   refine jn (fun a w => St M W H [K5, H] [] w ∧ Has [] 68 a [(4, .bool t216)]) ?_ ?_
   ·refine rg (fb 4 U24 rfl rfl rfl rfl Z22 (ld G22 rfl rfl ((sS 0 rfl hK6).drop 4) rfl (lnL U22 rfl rfl (leI rfl rfl rfl (m1 rfl ?_)))))
    by_cases hb219 : (v_0.parts.length : Int) ≤ 8
    ·have hr220 := if_p hb219 hx217
     refine gt hb219 rfl (m1 rfl (gt hb219 rfl (lnL U25 rfl rfl (gt hb219 rfl (leI rfl rfl rfl (pt hb219 rfl rfl (a1 rfl (on ?_))))))))
     cases hr220
     exact cu ⟨rfl, tv⟩
    ·have hr221 := if_n hb219 hx217
     refine gf hb219 rfl (gf hb219 rfl (gf hb219 rfl (pf hb219 rfl rfl (a1 rfl (on ?_)))))
     cases hr221
     exact cu ⟨rfl, tv⟩
   ·rintro a w ⟨hS, hA⟩
    refine TG.ap ?_ hS hA
    refine rt_ ?_
    cases hr218
    intro a w hS hA
    refine ret1 hA rfl rfl ?_
    exact ⟨rfl, hS.ext⟩

theorem w26 {M : Prop} {W : World} {H : Hp} (hH : H.le (hp W)) {cs_v_0 : List Value} (v_0 : Volume) (h_v_0 : (RVolume) H cs_v_0 v_0) {r : List Paragraph} (hr : m26 v_0 = some r) : Calls Tryz.prog 26 [.agg cs_v_0.toArray].toArray W (RetK M H W (fun v K => ∃ (ad0 : Option Addr) (cap0 : Nat), v = .slice ad0 r.length cap0 ∧ Sl (Flat encParagraph) 2 K ad0 cap0 r)) := by
 have hh_v_0 := h_v_0
 obtain ⟨ad1, cap2, rfl, hl3⟩ := h_v_0
 have := hl3.len
 unfold m26 at hr
 refine enterG (M := M) Tryz.func26 rfl Tryz.ntmps26 rfl hH ?_
 refine sq (rg (bI (cs := [.int .i64 v_0.number, .int .i64 v_0.bound, .int .i64 v_0.height, .int .i64 v_0.width, .slice ad1 v_0.parts.length cap2]) rfl rfl rfl fun q4 K5 hK6 => (a1 rfl (on (sq (rg (a1 rfl (on (sq (sq (rg ?_)))))))))))
 refine a1 rfl (on (TG.nilRow 2 95 2 (TG.as 2 (z := Own.list none 0 95 2 encParagraph ([] : List Paragraph)) rfl rfl ?_)))
 obtain ⟨e73, hl74, hr75⟩ := bd_some hr
 refine jn (fun a w => ∃ (ad76 : Option Addr) (cap77 : Nat), St M W H [K5, H] [(2, Own.list ad76 cap77 95 2 encParagraph e73)] w ∧ Has [] 21 a [(3, .slice ad76 e73.length cap77)]) ?_ ?_
 ·refine bk ?_
  refine lp hl74 (fun s78 a w => ∃ (ad79 : Option Addr) (cap80 : Nat), St M W H [K5, H] [(2, Own.list ad79 cap80 95 2 encParagraph s78.2)] w ∧ Has [] 21 a [(1, .pointer (some q4)), (3, .slice ad79 s78.2.length cap80), (4, .int .i64 (s78.1 : Int))]) ?_ ?_
  ·intro a w hS hA
   exact ⟨none, 0, hS, hA.cut ⟨rfl, rfl, rfl, tv⟩⟩
  ·rintro j s78 y83 hr81 hz82 a w ⟨ad79, cap80, hS, hA⟩
   refine TG.ap ?_ hS hA
   unfold m26_1 at hr81
   refine sq (sq (rg (m1 rfl (fb 4 U24 rfl rfl rfl rfl Z22 (ld G22 rfl rfl ((sS 0 rfl hK6).drop 4) rfl (lnL U22 rfl rfl (ltI rfl rfl rfl (on ?_))))))))
   refine ci rfl (fun hc87 => ?_) (fun hc87 => ?_)
   ·have hr88 := if_p hc87 hr81
    refine sk (sq (bk (rg (m1 rfl (fb 4 U24 rfl rfl rfl rfl Z22 (ld G22 rfl rfl ((sS 0 rfl hK6).drop 4) rfl (m1 rfl ?_)))))))
    obtain ⟨x105, hx106, hr107⟩ := bd_some hr88
    obtain ⟨p108, rfl⟩ := hl3.adr hx106
    obtain ⟨cs109, hcs110, hq111, hr112⟩ := hl3.at hx106
    have hr113 := hr112
    obtain ⟨ad114, cap115, rfl, hl116⟩ := hr112
    have := hl116.len
    refine iaP U22 Z94 rfl rfl rfl rfl (lt_of hx106) (fb 1 U94 rfl rfl rfl rfl Z92 (ld G92 rfl rfl ((sS 1 rfl hq111).drop 1) rfl ?_))
    obtain ⟨hk117, hr118⟩ := chk_some hr107
    have := lenA s78.2 x105.paragraphs
    refine apS 2 (enc := encParagraph) (l := s78.2) (m := x105.paragraphs) T10.E92 rfl rfl rfl rfl rfl rfl hl116 1 rfl (fun _ => rfl) (fun _ => rfl) rfl hk117 fun ad119 cap120 => (a1 rfl (on (rg (m1 rfl (adI rfl rfl rfl (by omega) (a1 rfl (on ?_)))))))
    cases hr118
    intro a w hS hA
    exact ⟨_, hz82, ad119, cap120, hS, hA.cut ⟨rfl, rfl, rfl, tv⟩⟩
   ·have hr121 := if_n hc87 hr81
    refine xt rfl ?_
    cases hr121
    obtain rfl := Fin.out hz82
    intro a w hS hA
    exact ⟨ad79, cap80, hS, hA.cut ⟨rfl, tv⟩⟩
 ·rintro a w ⟨ad76, cap77, hS, hA⟩
  refine TG.ap ?_ hS hA
  refine sq (rg (m1 rfl (a1 rfl (on (rt_ ?_)))))
  cases hr75
  intro a w hS hA
  refine ret1 hA rfl rfl ?_
  exact ⟨⟨_, _, rfl, (hS.listOut 2 rfl (fun _ => rfl))⟩, hS.ext⟩

theorem w27 {M : Prop} {W : World} (n_0 : Int) (low : Int) (high : Int) {r : Bool} (hr : m27 n_0 low high = some r) : Calls Tryz.prog 27 [.int .i64 n_0, .int .i64 low, .int .i64 high].toArray W (RetS M W (.bool r)) := by
 unfold m27 at hr
 refine enterG (M := M) Tryz.func27 rfl Tryz.ntmps27 rfl (Hp.le.refl _) ?_
 refine sq (rg (a1 rfl (on (sq ?_))))
 obtain ⟨t4, hx5, hr6⟩ := bd_some hr
 refine jn (fun a w => St M W (hp W) [(hp W)] [] w ∧ Has [] 15 a [(6, .bool t4)]) ?_ ?_
 ·refine rg (m1 rfl (m1 rfl (geI rfl rfl rfl (m1 rfl ?_))))
  by_cases hb7 : low ≤ n_0
  ·have hr8 := if_p hb7 hx5
   refine gt hb7 rfl (m1 rfl (gt hb7 rfl (m1 rfl (gt hb7 rfl (leI rfl rfl rfl (pt hb7 rfl rfl (a1 rfl (on ?_))))))))
   cases hr8
   exact cu ⟨rfl, tv⟩
  ·have hr9 := if_n hb7 hx5
   refine gf hb7 rfl (gf hb7 rfl (gf hb7 rfl (pf hb7 rfl rfl (a1 rfl (on ?_)))))
   cases hr9
   exact cu ⟨rfl, tv⟩
 ·rintro a w ⟨hS, hA⟩
  refine TG.ap ?_ hS hA
  refine rt_ ?_
  cases hr6
  intro a w hS hA
  refine ret1 hA rfl rfl ?_
  exact ⟨rfl, hS.ext⟩

theorem w28 {M : Prop} {W : World} (s_0 : Bytes) {r : Bool} (hr : m28 s_0 = some r) : Calls Tryz.prog 28 [.string (bs s_0)].toArray W (RetS M W (.bool r)) := by
 unfold m28 at hr
 refine enterG (M := M) Tryz.func28 rfl Tryz.ntmps28 rfl (Hp.le.refl _) ?_
 refine sq (rg (a1 rfl (on (sq (sq (rg (a1 rfl (on ?_))))))))
 obtain ⟨e17, hl18, hr19⟩ := bd_some hr
 refine jn (fun a w => ∃ t20, e17 = .inl t20 ∧ St M W (hp W) [(hp W)] [] w ∧ Has [] 23 a [(0, .string (bs s_0))]) ?_ ?_
 ·refine bk ?_
  refine lp hl18 (fun s21 a w => St M W (hp W) [(hp W)] [] w ∧ Has [] 23 a [(0, .string (bs s_0)), (3, .int .i64 (s21 : Int))]) ?_ ?_
  ·exact cu ⟨rfl, rfl, tv⟩
  ·rintro j s21 y24 hr22 hz23 a w ⟨hS, hA⟩
   refine TG.ap ?_ hS hA
   unfold m28_1 at hr22
   refine sq (sq (rg (m1 rfl (m1 rfl (lnS U9 rfl rfl (ltI rfl rfl rfl (on ?_)))))))
   refine ci rfl (fun hc28 => ?_) (fun hc28 => ?_)
   ·have hr29 := if_p hc28 hr22
    refine sk (sq (bk (sq ?_)))
    obtain ⟨t46, hx47, hr48⟩ := bd_some hr29
    refine jn (fun a w => St M W (hp W) [(hp W)] [] w ∧ Has [] 23 a [(0, .string (bs s_0)), (3, .int .i64 (s21 : Int)), (19, .bool t46)]) ?_ ?_
    ·refine rg (m1 rfl (m1 rfl ?_))
     obtain ⟨x49, hx50, hr51⟩ := bd_some hx47
     have := UInt8.toNat_lt x49
     refine ixS U9 rfl rfl rfl rfl hx50 (ltI rfl rfl rfl (m1 rfl ?_))
     by_cases hb52 : (x49.toNat : Int) < 32
     ·have hr53 := if_p hb52 hr51
      refine gf' hb52 rfl (gf' hb52 rfl (gf' hb52 rfl (gf' hb52 rfl (pt hb52 rfl rfl (on ?_)))))
      cases hr53
      exact cu ⟨rfl, rfl, rfl, tv⟩
     ·have hr54 := if_n hb52 hr51
      refine gt' hb52 rfl (m1 rfl (gt' hb52 rfl (m1 rfl (gt' hb52 rfl (ixS U9 rfl rfl rfl rfl hx50 (gt' hb52 rfl (gtI rfl rfl rfl (pf hb52 rfl rfl (on ?_)))))))))
      cases hr54
      exact cu ⟨rfl, rfl, rfl, tv⟩
    ·rintro a w ⟨hS, hA⟩
     refine TG.ap ?_ hS hA
     refine cb rfl (fun hc58 => ?_) (fun hc58 => ?_)
     ·have hr59 := if_p hc58 hr48
      refine sq (rg (a1 rfl (on (rt_ ?_))))
      cases hr59
      obtain rfl := Fin.out hz23
      cases hr19
      intro a w hS hA
      refine ret1 hA rfl rfl ?_
      exact ⟨rfl, hS.ext⟩
     ·have hr60 := if_f hc58 hr48
      refine sk (rg (m1 rfl ?_))
      obtain ⟨hk61, hr62⟩ := chk_some hr60
      refine adI rfl rfl rfl hk61 (a1 rfl (on ?_))
      cases hr62
      intro a w hS hA
      exact ⟨_, hz23, hS, hA.cut ⟨rfl, rfl, tv⟩⟩
   ·have hr63 := if_n hc28 hr22
    refine xt rfl ?_
    cases hr63
    obtain rfl := Fin.out hz23
    intro a w hS hA
    exact ⟨_, rfl, hS, hA.cut ⟨rfl, tv⟩⟩
 ·rintro a w ⟨t20, rfl, hS, hA⟩
  refine TG.ap ?_ hS hA
  refine sq (rg (m1 rfl (lnS U9 rfl rfl ?_)))
  obtain ⟨r64, hx65, hr66⟩ := bd_some hr19
  refine clS C27 rfl rfl rfl rfl (fun w H hH le => w27 (s_0.length : Int) 1 200 hx65) (a1 rfl (on (rt_ ?_)))
  cases hr66
  intro a w hS hA
  refine ret1 hA rfl rfl ?_
  exact ⟨rfl, hS.ext⟩

theorem w6 {M : Prop} {W : World} {H : Hp} (hH : H.le (hp W)) {cs_v_0 : List Value} (v_0 : Volume) (h_v_0 : (RVolume) H cs_v_0 v_0) {r : Int} (hr : m6 v_0 = some r) : Calls Tryz.prog 6 [.agg cs_v_0.toArray].toArray W (RetS M W (.int .i64 r)) := by
 have hh_v_0 := h_v_0
 obtain ⟨ad1, cap2, rfl, hl3⟩ := h_v_0
 have := hl3.len
 unfold m6 at hr
 refine enterG (M := M) Tryz.func6 rfl Tryz.ntmps6 rfl hH ?_
 refine sq (rg (bI (cs := [.int .i64 v_0.number, .int .i64 v_0.bound, .int .i64 v_0.height, .int .i64 v_0.width, .slice ad1 v_0.parts.length cap2]) rfl rfl rfl fun q4 K5 hK6 => (a1 rfl (on (sq (rg (ldA G24 Z24 rfl rfl (sS 0 rfl hK6) rfl ?_)))))))
 obtain ⟨r7, hx8, hr9⟩ := bd_some hr
 refine clK C26 rfl rfl rfl rfl (fun w H hH le => w26 hH v_0 (RVolume.mono _ _ _ _ (le.at 1 rfl) hh_v_0) hx8) ?_
 rintro v_ K10 ⟨ad11, cap12, rfl, hl13⟩
 have := hl13.len
 refine a1 rfl (on (sq (sq ?_)))
 obtain ⟨t17, hx18, hr19⟩ := bd_some hr9
 refine jn (fun a w => St M W H [K10, K5, H] [] w ∧ Has [] 122 a [(1, .pointer (some q4)), (3, .slice ad11 r7.length cap12), (18, .bool t17)]) ?_ ?_
 ·refine rg (fb 4 U24 rfl rfl rfl rfl Z22 (ld G22 rfl rfl ((sS 1 rfl hK6).drop 4) rfl (lnL U22 rfl rfl (gtI rfl rfl rfl (m1 rfl ?_)))))
  by_cases hb20 : 6 < (v_0.parts.length : Int)
  ·have hr21 := if_p hb20 hx18
   refine gf' hb20 rfl (gf' hb20 rfl (gf' hb20 rfl (pt hb20 rfl rfl (on ?_))))
   cases hr21
   exact cu ⟨rfl, rfl, rfl, tv⟩
  ·have hr22 := if_n hb20 hx18
   refine gt' hb20 rfl (m1 rfl (gt' hb20 rfl (lnL U92 rfl rfl (gt' hb20 rfl (gtI rfl rfl rfl (pf hb20 rfl rfl (on ?_)))))))
   cases hr22
   exact cu ⟨rfl, rfl, rfl, tv⟩
 ·rintro a w ⟨hS, hA⟩
  refine TG.ap ?_ hS hA
  refine cb rfl (fun hc26 => ?_) (fun hc26 => ?_)
  ·have hr27 := if_p hc26 hr19
   refine sq (rg (a1 rfl (on (rt_ ?_))))
   cases hr27
   intro a w hS hA
   refine ret1 hA rfl rfl ?_
   exact ⟨rfl, hS.ext⟩
  ·have hr28 := if_f hc26 hr19
   refine sk (sq (sq ?_))
   obtain ⟨t50, hx51, hr52⟩ := bd_some hr28
   refine jn (fun a w => St M W H [K10, K5, H] [] w ∧ Has [] 122 a [(1, .pointer (some q4)), (3, .slice ad11 r7.length cap12), (40, .bool t50)]) ?_ ?_
   ·refine rg (fb 0 U24 rfl rfl rfl rfl Z3 (ld G3 rfl rfl ((sS 1 rfl hK6).take 1) rfl ?_))
    obtain ⟨r53, hx54, hr55⟩ := bd_some hx51
    refine clS C27 rfl rfl rfl rfl (fun w H hH le => w27 v_0.number 1 99 hx54) (nt rfl rfl (m1 rfl ?_))
    rcases Bool.eq_false_or_eq_true (r53) with hb56 | hb56
    ·have hr57 := if_p hb56 hr55
     refine gN rfl rfl (congrArg not (hb56)) (fb 1 U24 rfl rfl rfl rfl Z3 (gN rfl rfl (congrArg not (hb56)) (ld G3 rfl rfl (((sS 1 rfl hK6).drop 1).take 1) rfl (gN rfl rfl (congrArg not (hb56)) ?_))))
     obtain ⟨r58, hx59, hr60⟩ := bd_some hr57
     refine clS C27 rfl rfl rfl rfl (fun w H hH le => w27 v_0.bound 0 99999 hx59) (gN rfl rfl (congrArg not (hb56)) (nt rfl rfl (pF rfl rfl (congrArg not (hb56)) rfl (m1 rfl ?_))))
     rcases Bool.eq_false_or_eq_true (r58) with hb61 | hb61
     ·have hr62 := if_p hb61 hr60
      refine gN rfl rfl (congrArg not (hb61)) (fb 2 U24 rfl rfl rfl rfl Z3 (gN rfl rfl (congrArg not (hb61)) (ld G3 rfl rfl (((sS 1 rfl hK6).drop 2).take 1) rfl (gN rfl rfl (congrArg not (hb61)) ?_))))
      obtain ⟨r63, hx64, hr65⟩ := bd_some hr62
      refine clS C27 rfl rfl rfl rfl (fun w H hH le => w27 v_0.height 1 60 hx64) (gN rfl rfl (congrArg not (hb61)) (nt rfl rfl (pF rfl rfl (congrArg not (hb61)) rfl (m1 rfl ?_))))
      rcases Bool.eq_false_or_eq_true (r63) with hb66 | hb66
      ·have hr67 := if_p hb66 hr65
       refine gN rfl rfl (congrArg not (hb66)) (fb 3 U24 rfl rfl rfl rfl Z3 (gN rfl rfl (congrArg not (hb66)) (ld G3 rfl rfl (((sS 1 rfl hK6).drop 3).take 1) rfl (gN rfl rfl (congrArg not (hb66)) ?_))))
       obtain ⟨r68, hx69, hr70⟩ := bd_some hr67
       refine clS C27 rfl rfl rfl rfl (fun w H hH le => w27 v_0.width 10 80 hx69) (gN rfl rfl (congrArg not (hb66)) (nt rfl rfl (pF rfl rfl (congrArg not (hb66)) rfl (on ?_))))
       cases hr70
       exact cu ⟨rfl, rfl, rfl, tv⟩
      ·have hr71 := if_f hb66 hr65
       refine gF rfl rfl (congrArg not (hb66)) rfl (gF rfl rfl (congrArg not (hb66)) rfl (gF rfl rfl (congrArg not (hb66)) rfl (gF rfl rfl (congrArg not (hb66)) rfl (pT rfl rfl (congrArg not (hb66)) rfl (on ?_)))))
       cases hr71
       exact cu ⟨rfl, rfl, rfl, tv⟩
     ·have hr72 := if_f hb61 hr60
      refine gF rfl rfl (congrArg not (hb61)) rfl (gF rfl rfl (congrArg not (hb61)) rfl (gF rfl rfl (congrArg not (hb61)) rfl (gF rfl rfl (congrArg not (hb61)) rfl (pT rfl rfl (congrArg not (hb61)) rfl (m1 rfl (gF rfl rfl rfl rfl (gF rfl rfl rfl rfl (gF rfl rfl rfl rfl (gF rfl rfl rfl rfl (pT rfl rfl rfl rfl (on ?_)))))))))))
      cases hr72
      exact cu ⟨rfl, rfl, rfl, tv⟩
    ·have hr73 := if_f hb56 hr55
     refine gF rfl rfl (congrArg not (hb56)) rfl (gF rfl rfl (congrArg not (hb56)) rfl (gF rfl rfl (congrArg not (hb56)) rfl (gF rfl rfl (congrArg not (hb56)) rfl (pT rfl rfl (congrArg not (hb56)) rfl (m1 rfl (gF rfl rfl rfl rfl (gF rfl rfl rfl rfl (gF rfl rfl rfl rfl (gF rfl rfl rfl rfl (pT rfl rfl rfl rfl (m1 rfl ?_)))))))))))
     refine gF rfl rfl rfl rfl (gF rfl rfl rfl rfl (gF rfl rfl rfl rfl (gF rfl rfl rfl rfl (pT rfl rfl rfl rfl (on ?_)))))
     cases hr73
     exact cu ⟨rfl, rfl, rfl, tv⟩
   ·rintro a w ⟨hS, hA⟩
    refine TG.ap ?_ hS hA
    refine cb rfl (fun hc77 => ?_) (fun hc77 => ?_)
    ·have hr78 := if_p hc77 hr52
     refine sq (rg (a1 rfl (on (rt_ ?_))))
     cases hr78
     intro a w hS hA
     refine ret1 hA rfl rfl ?_
     exact ⟨rfl, hS.ext⟩
    ·have hr79 := if_f hc77 hr52
     refine sk (sq (sq (rg (a1 rfl (on ?_)))))
     obtain ⟨e123, hl124, hr125⟩ := bd_some hr79
     refine jn (fun a w => ∃ t126, e123 = .inl t126 ∧ St M W H [K10, K5, H] [] w ∧ Has [] 122 a [(3, .slice ad11 r7.length cap12)]) ?_ ?_
     ·refine bk ?_
      refine lp hl124 (fun s127 a w => St M W H [K10, K5, H] [] w ∧ Has [] 122 a [(1, .pointer (some q4)), (3, .slice ad11 r7.length cap12), (4, .int .i64 (s127 : Int))]) ?_ ?_
      ·exact cu ⟨rfl, rfl, rfl, tv⟩
      ·rintro j s127 y130 hr128 hz129 a w ⟨hS, hA⟩
       refine TG.ap ?_ hS hA
       unfold m6_1 at hr128
       refine sq (sq (rg (m1 rfl (fb 4 U24 rfl rfl rfl rfl Z22 (ld G22 rfl rfl ((sS 1 rfl hK6).drop 4) rfl (lnL U22 rfl rfl (ltI rfl rfl rfl (on ?_))))))))
       refine ci rfl (fun hc134 => ?_) (fun hc134 => ?_)
       ·have hr135 := if_p hc134 hr128
        refine sk (sq (bk (sq ?_)))
        obtain ⟨t210, hx211, hr212⟩ := bd_some hr135
        refine jn (fun a w => St M W H [K10, K5, H] [] w ∧ Has [] 122 a [(1, .pointer (some q4)), (3, .slice ad11 r7.length cap12), (4, .int .i64 (s127 : Int)), (77, .bool t210)]) ?_ ?_
        ·obtain ⟨x213, hx214, hr215⟩ := bd_some hx211
         obtain ⟨p216, rfl⟩ := hl3.adr hx214
         obtain ⟨cs217, hcs218, hq219, hr220⟩ := hl3.at hx214
         have hr221 := hr220
         obtain ⟨ad222, cap223, rfl, hl224⟩ := hr220
         have := hl224.len
         obtain ⟨r225, hx226, hr227⟩ := bd_some hr215
         rcases Bool.eq_false_or_eq_true (r225) with hb228 | hb228
         ·have hr229 := if_p hb228 hr227
          by_cases hb230 : 0 < (s127 : Int)
          ·have hr231 := if_p hb230 hr229
           obtain ⟨x232, hx233, hr234⟩ := bd_some hr231
           obtain ⟨cs235, hcs236, hq237, hr238⟩ := hl3.at hx233
           have hr239 := hr238
           obtain ⟨ad240, cap241, rfl, hl242⟩ := hr238
           have := hl242.len
           refine drG 27 mixed (by kernel_rfl) rfl (dt rfl (fb 4 U24 rfl rfl rfl rfl Z22 fin1) (dt rfl (ld G22 rfl rfl ((sS 2 rfl hK6).drop 4) rfl fin1) (dt rfl (m1 rfl fin1) (dt rfl (iaP U22 Z94 rfl rfl rfl rfl (lt_of hx214) fin1) (dt rfl (fb 0 U94 rfl rfl rfl rfl Z3 fin1) (dt rfl (ld G3 rfl rfl ((sS 3 rfl hq219).take 1) rfl fin1) (dt rfl (fb 1 U24 rfl rfl rfl rfl Z3 fin1) (dt rfl (ld G3 rfl rfl (((sS 2 rfl hK6).drop 1).take 1) rfl fin1) (dt rfl (clS C27 rfl rfl rfl rfl (fun w H hH le => w27 x213.day 0 v_0.bound hx226) fin1) (dt rfl (nt rfl rfl fin1) (dt rfl (m1 rfl fin1) ?_)))))))))))
           refine dt rfl (gN rfl rfl (congrArg not (hb228)) (m1 rfl fin1)) (dt rfl (gN rfl rfl (congrArg not (hb228)) (gtI rfl rfl rfl fin1)) (dt rfl (gN rfl rfl (congrArg not (hb228)) (m1 rfl fin1)) (dt rfl (gt hb230 rfl (fb 4 U24 rfl rfl rfl rfl Z22 fin1)) (dt rfl (gt hb230 rfl (ld G22 rfl rfl ((sS 2 rfl hK6).drop 4) rfl fin1)) (dt rfl (gt hb230 rfl (m1 rfl fin1)) (dt rfl (gt hb230 rfl (iaP U22 Z94 rfl rfl rfl rfl (lt_of hx214) fin1)) (dt rfl (gt hb230 rfl (fb 0 U94 rfl rfl rfl rfl Z3 fin1)) (dt rfl (gt hb230 rfl (ld G3 rfl rfl ((sS 3 rfl hq219).take 1) rfl fin1)) (dt rfl (gt hb230 rfl (fb 4 U24 rfl rfl rfl rfl Z22 fin1)) (dt rfl (gt hb230 rfl (ld G22 rfl rfl ((sS 2 rfl hK6).drop 4) rfl fin1)) (dt rfl (gt hb230 rfl (m1 rfl fin1)) ?_)))))))))))
           refine dt rfl (gt hb230 rfl (sbI rfl rfl rfl (by omega) fin1)) (dt rfl (gt hb230 rfl (iaP U22 Z94 rfl rfl rfl (by omega) (lt_of hx233) fin1)) (dt rfl (gt hb230 rfl (fb 0 U94 rfl rfl rfl rfl Z3 fin1)) (dt rfl (gt hb230 rfl (ld G3 rfl rfl ((sS 3 rfl hq237).take 1) rfl fin1)) (DF.nil fun K243 hF => (gt hb230 rfl (leI rfl rfl rfl (gN rfl rfl (congrArg not (hb228)) (pt hb230 rfl rfl (pF rfl rfl (congrArg not (hb228)) rfl (on ?_))))))))))
           cases hr234
           intro a w hS hA
           exact ⟨hS.selH [1, 2, 3] rfl, hA.cut ⟨rfl, rfl, rfl, rfl, tv⟩⟩
          ·have hr244 := if_n hb230 hr229
           refine drG 27 mixed (by kernel_rfl) rfl (dt rfl (fb 4 U24 rfl rfl rfl rfl Z22 fin1) (dt rfl (ld G22 rfl rfl ((sS 2 rfl hK6).drop 4) rfl fin1) (dt rfl (m1 rfl fin1) (dt rfl (iaP U22 Z94 rfl rfl rfl rfl (lt_of hx214) fin1) (dt rfl (fb 0 U94 rfl rfl rfl rfl Z3 fin1) (dt rfl (ld G3 rfl rfl ((sS 3 rfl hq219).take 1) rfl fin1) (dt rfl (fb 1 U24 rfl rfl rfl rfl Z3 fin1) (dt rfl (ld G3 rfl rfl (((sS 2 rfl hK6).drop 1).take 1) rfl fin1) (dt rfl (clS C27 rfl rfl rfl rfl (fun w H hH le => w27 x213.day 0 v_0.bound hx226) fin1) (dt rfl (nt rfl rfl fin1) (dt rfl (m1 rfl fin1) ?_)))))))))))
           refine dt rfl (gN rfl rfl (congrArg not (hb228)) (m1 rfl fin1)) (dt rfl (gN rfl rfl (congrArg not (hb228)) (gtI rfl rfl rfl fin1)) (dt rfl (gN rfl rfl (congrArg not (hb228)) (m1 rfl fin1)) (dt rfl (gf hb230 rfl fin1) (dt rfl (gf hb230 rfl fin1) (dt rfl (gf hb230 rfl fin1) (dt rfl (gf hb230 rfl fin1) (dt rfl (gf hb230 rfl fin1) (dt rfl (gf hb230 rfl fin1) (dt rfl (gf hb230 rfl fin1) (dt rfl (gf hb230 rfl fin1) (dt rfl (gf hb230 rfl fin1) ?_)))))))))))
           refine dt rfl (gf hb230 rfl fin1) (dt rfl (gf hb230 rfl fin1) (dt rfl (gf hb230 rfl fin1) (dt rfl (gf hb230 rfl fin1) (DF.nil fun K245 hF => (gf hb230 rfl (gN rfl rfl (congrArg not (hb228)) (pf hb230 rfl rfl (pF rfl rfl (congrArg not (hb228)) rfl (on ?_)))))))))
           cases hr244
           intro a w hS hA
           exact ⟨hS.selH [1, 2, 3] rfl, hA.cut ⟨rfl, rfl, rfl, rfl, tv⟩⟩
         ·have hr246 := if_f hb228 hr227
          refine drG 27 mixed (by kernel_rfl) rfl (dt rfl (fb 4 U24 rfl rfl rfl rfl Z22 fin1) (dt rfl (ld G22 rfl rfl ((sS 2 rfl hK6).drop 4) rfl fin1) (dt rfl (m1 rfl fin1) (dt rfl (iaP U22 Z94 rfl rfl rfl rfl (lt_of hx214) fin1) (dt rfl (fb 0 U94 rfl rfl rfl rfl Z3 fin1) (dt rfl (ld G3 rfl rfl ((sS 3 rfl hq219).take 1) rfl fin1) (dt rfl (fb 1 U24 rfl rfl rfl rfl Z3 fin1) (dt rfl (ld G3 rfl rfl (((sS 2 rfl hK6).drop 1).take 1) rfl fin1) (dt rfl (clS C27 rfl rfl rfl rfl (fun w H hH le => w27 x213.day 0 v_0.bound hx226) fin1) (dt rfl (nt rfl rfl fin1) (dt rfl (m1 rfl fin1) ?_)))))))))))
          refine dt rfl (gF rfl rfl (congrArg not (hb228)) rfl fin1) (dt rfl (gF rfl rfl (congrArg not (hb228)) rfl fin1) (dt rfl (gF rfl rfl (congrArg not (hb228)) rfl fin1) (dt rfl (gU rfl rfl rfl fin1) (dt rfl (gU rfl rfl rfl fin1) (dt rfl (gU rfl rfl rfl fin1) (dt rfl (gU rfl rfl rfl fin1) (dt rfl (gU rfl rfl rfl fin1) (dt rfl (gU rfl rfl rfl fin1) (dt rfl (gU rfl rfl rfl fin1) (dt rfl (gU rfl rfl rfl fin1) (dt rfl (gU rfl rfl rfl fin1) ?_)))))))))))
          refine dt rfl (gU rfl rfl rfl fin1) (dt rfl (gU rfl rfl rfl fin1) (dt rfl (gU rfl rfl rfl fin1) (dt rfl (gU rfl rfl rfl fin1) (DF.nil fun K247 hF => (gU rfl rfl rfl (gF rfl rfl (congrArg not (hb228)) rfl (pT rfl rfl (congrArg not (hb228)) rfl (on ?_))))))))
          cases hr246
          intro a w hS hA
          exact ⟨hS.selH [1, 2, 3] rfl, hA.cut ⟨rfl, rfl, rfl, rfl, tv⟩⟩
        ·rintro a w ⟨hS, hA⟩
         refine TG.ap ?_ hS hA
         refine cb rfl (fun hc251 => ?_) (fun hc251 => ?_)
         ·have hr252 := if_p hc251 hr212
          refine sq (rg (a1 rfl (on (rt_ ?_))))
          cases hr252
          obtain rfl := Fin.out hz129
          cases hr125
          intro a w hS hA
          refine ret1 hA rfl rfl ?_
          exact ⟨rfl, hS.ext⟩
         ·have hr253 := if_f hc251 hr212
          refine sk (rg (m1 rfl (adI rfl rfl rfl (by omega) (a1 rfl (on ?_)))))
          cases hr253
          intro a w hS hA
          exact ⟨_, hz129, hS, hA.cut ⟨rfl, rfl, rfl, tv⟩⟩
       ·have hr254 := if_n hc134 hr128
        refine xt rfl ?_
        cases hr254
        obtain rfl := Fin.out hz129
        intro a w hS hA
        exact ⟨_, rfl, hS, hA.cut ⟨rfl, tv⟩⟩
     ·rintro a w ⟨t126, rfl, hS, hA⟩
      refine TG.ap ?_ hS hA
      refine sq (sq (rg (a1 rfl (on ?_))))
      obtain ⟨e280, hl281, hr282⟩ := bd_some hr125
      refine jn (fun a w => ∃ t283, e280 = .inl t283 ∧ St M W H [K10, K5, H] [] w ∧ Has [] 122 a [(3, .slice ad11 r7.length cap12)]) ?_ ?_
      ·refine bk ?_
       refine lp hl281 (fun s284 a w => St M W H [K10, K5, H] [] w ∧ Has [] 122 a [(3, .slice ad11 r7.length cap12), (5, .int .i64 (s284 : Int))]) ?_ ?_
       ·exact cu ⟨rfl, rfl, tv⟩
       ·rintro j s284 y287 hr285 hz286 a w ⟨hS, hA⟩
        refine TG.ap ?_ hS hA
        unfold m6_2 at hr285
        refine sq (sq (rg (m1 rfl (m1 rfl (lnL U92 rfl rfl (ltI rfl rfl rfl (on ?_)))))))
        refine ci rfl (fun hc291 => ?_) (fun hc291 => ?_)
        ·have hr292 := if_p hc291 hr285
         refine sk (sq (bk (sq ?_)))
         obtain ⟨t331, hx332, hr333⟩ := bd_some hr292
         refine jn (fun a w => St M W H [K10, K5, H] [] w ∧ Has [] 122 a [(3, .slice ad11 r7.length cap12), (5, .int .i64 (s284 : Int)), (99, .bool t331)]) ?_ ?_
         ·refine rg (m1 rfl (m1 rfl ?_))
          obtain ⟨x334, hx335, hr336⟩ := bd_some hx332
          obtain ⟨p337, rfl⟩ := hl13.adr hx335
          obtain ⟨cs338, hcs339, hq340, hr341⟩ := hl13.at hx335
          obtain rfl := hr341
          refine iaP U92 Z95 rfl rfl rfl rfl (lt_of hx335) (fb 0 U95 rfl rfl rfl rfl Z3 (ld G3 rfl rfl ((sS 0 rfl hq340).take 1) rfl ?_))
          obtain ⟨r342, hx343, hr344⟩ := bd_some hr336
          refine clS C27 rfl rfl rfl rfl (fun w H hH le => w27 x334.anchor 1 999 hx343) (nt rfl rfl (m1 rfl ?_))
          rcases Bool.eq_false_or_eq_true (r342) with hb345 | hb345
          ·have hr346 := if_p hb345 hr344
           refine gN rfl rfl (congrArg not (hb345)) (m1 rfl (gN rfl rfl (congrArg not (hb345)) (m1 rfl (gN rfl rfl (congrArg not (hb345)) (iaP U92 Z95 rfl rfl rfl rfl (lt_of hx335) (gN rfl rfl (congrArg not (hb345)) (fb 1 U95 rfl rfl rfl rfl Z9 (gN rfl rfl (congrArg not (hb345)) (ld G9 rfl rfl ((sS 0 rfl hq340).drop 1) rfl (gN rfl rfl (congrArg not (hb345)) ?_))))))))))
           obtain ⟨r347, hx348, hr349⟩ := bd_some hr346
           refine clS C28 rfl rfl rfl rfl (fun w H hH le => w28 x334.text hx348) (gN rfl rfl (congrArg not (hb345)) (nt rfl rfl (pF rfl rfl (congrArg not (hb345)) rfl (on ?_))))
           cases hr349
           exact cu ⟨rfl, rfl, rfl, tv⟩
          ·have hr350 := if_f hb345 hr344
           refine gF rfl rfl (congrArg not (hb345)) rfl (gF rfl rfl (congrArg not (hb345)) rfl (gF rfl rfl (congrArg not (hb345)) rfl (gF rfl rfl (congrArg not (hb345)) rfl (gF rfl rfl (congrArg not (hb345)) rfl (gF rfl rfl (congrArg not (hb345)) rfl (gF rfl rfl (congrArg not (hb345)) rfl (pT rfl rfl (congrArg not (hb345)) rfl (on ?_))))))))
           cases hr350
           exact cu ⟨rfl, rfl, rfl, tv⟩
         ·rintro a w ⟨hS, hA⟩
          refine TG.ap ?_ hS hA
          refine cb rfl (fun hc354 => ?_) (fun hc354 => ?_)
          ·have hr355 := if_p hc354 hr333
           refine sq (rg (a1 rfl (on (rt_ ?_))))
           cases hr355
           obtain rfl := Fin.out hz286
           cases hr282
           intro a w hS hA
           refine ret1 hA rfl rfl ?_
           exact ⟨rfl, hS.ext⟩
          ·have hr356 := if_f hc354 hr333
           refine sk (rg (m1 rfl (adI rfl rfl rfl (by omega) (a1 rfl (on ?_)))))
           cases hr356
           intro a w hS hA
           exact ⟨_, hz286, hS, hA.cut ⟨rfl, rfl, tv⟩⟩
        ·have hr357 := if_n hc291 hr285
         refine xt rfl ?_
         cases hr357
         obtain rfl := Fin.out hz286
         intro a w hS hA
         exact ⟨_, rfl, hS, hA.cut ⟨rfl, tv⟩⟩
      ·rintro a w ⟨t283, rfl, hS, hA⟩
       refine TG.ap ?_ hS hA
       refine sq (sq (rg (a1 rfl (on ?_))))
       obtain ⟨e388, hl389, hr390⟩ := bd_some hr282
       refine jn (fun a w => ∃ t391, e388 = .inl t391 ∧ St M W H [K10, K5, H] [] w ∧ Has [] 122 a []) ?_ ?_
       ·refine bk ?_
        refine lp hl389 (fun s392 a w => St M W H [K10, K5, H] [] w ∧ Has [] 122 a [(3, .slice ad11 r7.length cap12), (6, .int .i64 (s392 : Int))]) ?_ ?_
        ·exact cu ⟨rfl, rfl, tv⟩
        ·rintro j s392 y395 hr393 hz394 a w ⟨hS, hA⟩
         refine TG.ap ?_ hS hA
         unfold m6_3 at hr393
         refine sq (sq (rg (m1 rfl (m1 rfl (lnL U92 rfl rfl (ltI rfl rfl rfl (on ?_)))))))
         refine ci rfl (fun hc399 => ?_) (fun hc399 => ?_)
         ·have hr400 := if_p hc399 hr393
          refine sk (sq (bk (sq (rg (a1 rfl (on ?_))))))
          obtain ⟨e452, hl453, hr454⟩ := bd_some hr400
          refine jn (fun a w => ∃ t455, e452 = .inl t455 ∧ St M W H [K10, K5, H] [] w ∧ Has [] 122 a [(3, .slice ad11 r7.length cap12), (6, .int .i64 (s392 : Int))]) ?_ ?_
          ·refine bk ?_
           refine lp hl453 (fun s456 a w => St M W H [K10, K5, H] [] w ∧ Has [] 122 a [(3, .slice ad11 r7.length cap12), (6, .int .i64 (s392 : Int)), (7, .int .i64 (s456 : Int))]) ?_ ?_
           ·exact cu ⟨rfl, rfl, rfl, tv⟩
           ·rintro j s456 y459 hr457 hz458 a w ⟨hS, hA⟩
            refine TG.ap ?_ hS hA
            unfold m6_4 at hr457
            refine sq (sq (rg (m1 rfl (m1 rfl (ltI rfl rfl rfl (on ?_))))))
            refine ci rfl (fun hc463 => ?_) (fun hc463 => ?_)
            ·have hr464 := if_p hc463 hr457
             refine sk (sq (bk (sq ?_)))
             obtain ⟨x484, hx485, hr486⟩ := bd_some hr464
             obtain ⟨p487, rfl⟩ := hl13.adr hx485
             obtain ⟨cs488, hcs489, hq490, hr491⟩ := hl13.at hx485
             obtain rfl := hr491
             obtain ⟨x492, hx493, hr494⟩ := bd_some hr486
             obtain ⟨cs495, hcs496, hq497, hr498⟩ := hl13.at hx493
             obtain rfl := hr498
             refine drG 10 mixed (by kernel_rfl) rfl (dt rfl (m1 rfl fin1) (dt rfl (m1 rfl fin1) (dt rfl (iaP U92 Z95 rfl rfl rfl rfl (lt_of hx485) fin1) (dt rfl (fb 0 U95 rfl rfl rfl rfl Z3 fin1) (dt rfl (ld G3 rfl rfl ((sS 1 rfl hq490).take 1) rfl fin1) (dt rfl (m1 rfl fin1) (dt rfl (m1 rfl fin1) (dt rfl (iaP U92 Z95 rfl rfl rfl rfl (lt_of hx493) fin1) (dt rfl (fb 0 U95 rfl rfl rfl rfl Z3 fin1) (dt rfl (ld G3 rfl rfl ((sS 1 rfl hq497).take 1) rfl fin1) (DF.nil fun K499 hF => ?_)))))))))))
             refine eqI rfl rfl rfl (on ?_)
             refine ci rfl (fun hc503 => ?_) (fun hc503 => ?_)
             ·have hr504 := if_p hc503 hr494
              refine sq (rg (a1 rfl (on (rt_ ?_))))
              cases hr504
              obtain rfl := Fin.out hz458
              cases hr454
              obtain rfl := Fin.out hz394
              cases hr390
              intro a w hS hA
              refine ret1 hA rfl rfl ?_
              exact ⟨rfl, hS.ext⟩
             ·have hr505 := if_n hc503 hr494
              refine sk (rg (m1 rfl ?_))
              obtain ⟨hk506, hr507⟩ := chk_some hr505
              refine adI rfl rfl rfl hk506 (a1 rfl (on ?_))
              cases hr507
              intro a w hS hA
              exact ⟨_, hz458, hS.selH [1, 2, 3] rfl, hA.cut ⟨rfl, rfl, rfl, tv⟩⟩
            ·have hr508 := if_n hc463 hr457
             refine xt rfl ?_
             cases hr508
             obtain rfl := Fin.out hz458
             intro a w hS hA
             exact ⟨_, rfl, hS, hA.cut ⟨rfl, rfl, tv⟩⟩
          ·rintro a w ⟨t455, rfl, hS, hA⟩
           refine TG.ap ?_ hS hA
           refine rg (m1 rfl (adI rfl rfl rfl (by omega) (a1 rfl (on ?_))))
           cases hr454
           intro a w hS hA
           exact ⟨_, hz394, hS, hA.cut ⟨rfl, rfl, tv⟩⟩
         ·have hr509 := if_n hc399 hr393
          refine xt rfl ?_
          cases hr509
          obtain rfl := Fin.out hz394
          intro a w hS hA
          exact ⟨_, rfl, hS, hA.cut tv⟩
       ·rintro a w ⟨t391, rfl, hS, hA⟩
        refine TG.ap ?_ hS hA
        refine sq (rg (a1 rfl (on (rt_ ?_))))
        cases hr390
        intro a w hS hA
        refine ret1 hA rfl rfl ?_
        exact ⟨rfl, hS.ext⟩

theorem w29 {M : Prop} {W : World} {cs_x_0 : List Value} (x_0 : Erratum) (h_x_0 : (Flat encErratum) (hp W) cs_x_0 x_0) {r : Bool} (hr : m29 x_0 = some r) : Calls Tryz.prog 29 [.agg cs_x_0.toArray].toArray W (RetS M W (.bool r)) := by
 obtain rfl := h_x_0
 unfold m29 at hr
 refine enterG (M := M) Tryz.func29 rfl Tryz.ntmps29 rfl (Hp.le.refl _) ?_
 refine sq (rg (bI (cs := [.int .i64 x_0.number, .int .i64 x_0.day, .int .u8 x_0.kind, .int .i64 x_0.anchor, .string (bs x_0.text), .int .i64 x_0.new_]) rfl rfl rfl fun q1 K2 hK3 => (a1 rfl (on (sq (sq ?_))))))
 obtain ⟨t19, hx20, hr21⟩ := bd_some hr
 refine jn (fun a w => St M W (hp W) [K2, (hp W)] [] w ∧ Has [] 54 a [(1, .pointer (some q1)), (18, .bool t19)]) ?_ ?_
 ·refine rg (fb 0 U97 rfl rfl rfl rfl Z3 (ld G3 rfl rfl ((sS 0 rfl hK3).take 1) rfl ?_))
  obtain ⟨r22, hx23, hr24⟩ := bd_some hx20
  refine clS C27 rfl rfl rfl rfl (fun w H hH le => w27 x_0.number 1 999 hx23) (nt rfl rfl (m1 rfl ?_))
  rcases Bool.eq_false_or_eq_true (r22) with hb25 | hb25
  ·have hr26 := if_p hb25 hr24
   refine gN rfl rfl (congrArg not (hb25)) (fb 1 U97 rfl rfl rfl rfl Z3 (gN rfl rfl (congrArg not (hb25)) (ld G3 rfl rfl (((sS 0 rfl hK3).drop 1).take 1) rfl (gN rfl rfl (congrArg not (hb25)) ?_))))
   obtain ⟨r27, hx28, hr29⟩ := bd_some hr26
   refine clS C27 rfl rfl rfl rfl (fun w H hH le => w27 x_0.day 0 99999 hx28) (gN rfl rfl (congrArg not (hb25)) (nt rfl rfl (pF rfl rfl (congrArg not (hb25)) rfl (m1 rfl ?_))))
   rcases Bool.eq_false_or_eq_true (r27) with hb30 | hb30
   ·have hr31 := if_p hb30 hr29
    refine gN rfl rfl (congrArg not (hb30)) (fb 3 U97 rfl rfl rfl rfl Z3 (gN rfl rfl (congrArg not (hb30)) (ld G3 rfl rfl (((sS 0 rfl hK3).drop 3).take 1) rfl (gN rfl rfl (congrArg not (hb30)) ?_))))
    obtain ⟨r32, hx33, hr34⟩ := bd_some hr31
    refine clS C27 rfl rfl rfl rfl (fun w H hH le => w27 x_0.anchor 1 999 hx33) (gN rfl rfl (congrArg not (hb30)) (nt rfl rfl (pF rfl rfl (congrArg not (hb30)) rfl (on ?_))))
    cases hr34
    exact cu ⟨rfl, rfl, tv⟩
   ·have hr35 := if_f hb30 hr29
    refine gF rfl rfl (congrArg not (hb30)) rfl (gF rfl rfl (congrArg not (hb30)) rfl (gF rfl rfl (congrArg not (hb30)) rfl (gF rfl rfl (congrArg not (hb30)) rfl (pT rfl rfl (congrArg not (hb30)) rfl (on ?_)))))
    cases hr35
    exact cu ⟨rfl, rfl, tv⟩
  ·have hr36 := if_f hb25 hr24
   refine gF rfl rfl (congrArg not (hb25)) rfl (gF rfl rfl (congrArg not (hb25)) rfl (gF rfl rfl (congrArg not (hb25)) rfl (gF rfl rfl (congrArg not (hb25)) rfl (pT rfl rfl (congrArg not (hb25)) rfl (m1 rfl (gF rfl rfl rfl rfl (gF rfl rfl rfl rfl (gF rfl rfl rfl rfl (gF rfl rfl rfl rfl (pT rfl rfl rfl rfl (on ?_)))))))))))
   cases hr36
   exact cu ⟨rfl, rfl, tv⟩
 ·rintro a w ⟨hS, hA⟩
  refine TG.ap ?_ hS hA
  refine cb rfl (fun hc40 => ?_) (fun hc40 => ?_)
  ·have hr41 := if_p hc40 hr21
   refine sq (rg (a1 rfl (on (rt_ ?_))))
   cases hr41
   intro a w hS hA
   refine ret1 hA rfl rfl ?_
   exact ⟨rfl, hS.ext⟩
  ·have hr42 := if_f hc40 hr21
   refine sk (sq (sq (rg (fb 2 U97 rfl rfl rfl rfl Z5 (ld G5 rfl rfl (((sS 0 rfl hK3).drop 2).take 1) rfl (on (bk (sq (rg (eqI rfl rfl rfl (a1 rfl ?_)))))))))))
   refine on ?_
   refine ci rfl (fun hc77 => ?_) (fun hc77 => ?_)
   ·have hr78 := if_p hc77 hr42
    refine sq ?_
    obtain ⟨t85, hx86, hr87⟩ := bd_some hr78
    refine jn (fun a w => St M W (hp W) [K2, (hp W)] [] w ∧ Has [] 54 a [(2, .bool t85)]) ?_ ?_
    ·refine rg (fb 4 U97 rfl rfl rfl rfl Z9 (ld G9 rfl rfl (((sS 0 rfl hK3).drop 4).take 1) rfl ?_))
     obtain ⟨r88, hx89, hr90⟩ := bd_some hx86
     refine clS C28 rfl rfl rfl rfl (fun w H hH le => w28 x_0.text hx89) (m1 rfl ?_)
     rcases Bool.eq_false_or_eq_true (r88) with hb91 | hb91
     ·have hr92 := if_p hb91 hr90
      refine gN rfl rfl (hb91) (fb 5 U97 rfl rfl rfl rfl Z3 (gN rfl rfl (hb91) (ld G3 rfl rfl ((sS 0 rfl hK3).drop 5) rfl (gN rfl rfl (hb91) (eqI rfl rfl rfl (pT rfl rfl (hb91) rfl (a1 rfl (on ?_))))))))
      cases hr92
      exact cu ⟨rfl, tv⟩
     ·have hr93 := if_f hb91 hr90
      refine gF rfl rfl (hb91) rfl (gF rfl rfl (hb91) rfl (gF rfl rfl (hb91) rfl (pF rfl rfl (hb91) rfl (a1 rfl (on ?_)))))
      cases hr93
      exact cu ⟨rfl, tv⟩
    ·rintro a w ⟨hS, hA⟩
     refine TG.ap ?_ hS hA
     refine rt_ ?_
     cases hr87
     intro a w hS hA
     refine ret1 hA rfl rfl ?_
     exact ⟨rfl, hS.ext⟩
   ·have hr94 := if_n hc77 hr42
    refine sq (rg (eqI rfl rfl rfl (a1 rfl (on ?_))))
    refine ci rfl (fun hc102 => ?_) (fun hc102 => ?_)
    ·have hr103 := if_p hc102 hr94
     refine sq ?_
     obtain ⟨t107, hx108, hr109⟩ := bd_some hr103
     refine jn (fun a w => St M W (hp W) [K2, (hp W)] [] w ∧ Has [] 54 a [(2, .bool t107)]) ?_ ?_
     ·refine rg (fb 4 U97 rfl rfl rfl rfl Z9 (ld G9 rfl rfl (((sS 0 rfl hK3).drop 4).take 1) rfl (eqS rfl rfl rfl (m1 rfl ?_))))
      by_cases hb110 : x_0.text = []
      ·have hr111 := if_p hb110 hx108
       refine gt hb110 rfl (fb 5 U97 rfl rfl rfl rfl Z3 (gt hb110 rfl (ld G3 rfl rfl ((sS 0 rfl hK3).drop 5) rfl (gt hb110 rfl (eqI rfl rfl rfl (pt hb110 rfl rfl (a1 rfl (on ?_))))))))
       cases hr111
       exact cu ⟨rfl, tv⟩
      ·have hr112 := if_n hb110 hx108
       refine gf hb110 rfl (gf hb110 rfl (gf hb110 rfl (pf hb110 rfl rfl (a1 rfl (on ?_)))))
       cases hr112
       exact cu ⟨rfl, tv⟩
     ·rintro a w ⟨hS, hA⟩
      refine TG.ap ?_ hS hA
      refine rt_ ?_
      cases hr109
      intro a w hS hA
      refine ret1 hA rfl rfl ?_
      exact ⟨rfl, hS.ext⟩
    ·have hr113 := if_n hc102 hr94
     refine sk (sq ?_)
     obtain ⟨t126, hx127, hr128⟩ := bd_some hr113
     refine jn (fun a w => St M W (hp W) [K2, (hp W)] [] w ∧ Has [] 54 a [(2, .bool t126)]) ?_ ?_
     ·refine rg (fb 2 U97 rfl rfl rfl rfl Z5 (ld G5 rfl rfl (((sS 0 rfl hK3).drop 2).take 1) rfl (eqI rfl rfl rfl (m1 rfl ?_))))
      by_cases hb129 : x_0.kind = 2
      ·have hr130 := if_p hb129 hx127
       refine gt hb129 rfl (fb 4 U97 rfl rfl rfl rfl Z9 (gt hb129 rfl (ld G9 rfl rfl (((sS 0 rfl hK3).drop 4).take 1) rfl (gt hb129 rfl ?_))))
       obtain ⟨r131, hx132, hr133⟩ := bd_some hr130
       refine clS C28 rfl rfl rfl rfl (fun w H hH le => w28 x_0.text hx132) (pt hb129 rfl rfl (m1 rfl ?_))
       rcases Bool.eq_false_or_eq_true (r131) with hb134 | hb134
       ·have hr135 := if_p hb134 hr133
        refine gN rfl rfl (hb134) (fb 5 U97 rfl rfl rfl rfl Z3 (gN rfl rfl (hb134) (ld G3 rfl rfl ((sS 0 rfl hK3).drop 5) rfl (gN rfl rfl (hb134) ?_))))
        obtain ⟨r136, hx137, hr138⟩ := bd_some hr135
        refine clS C27 rfl rfl rfl rfl (fun w H hH le => w27 x_0.new_ 1 999 hx137) (pT rfl rfl (hb134) rfl (a1 rfl (on ?_)))
        cases hr138
        exact cu ⟨rfl, tv⟩
       ·have hr139 := if_f hb134 hr133
        refine gF rfl rfl (hb134) rfl (gF rfl rfl (hb134) rfl (gF rfl rfl (hb134) rfl (pF rfl rfl (hb134) rfl (a1 rfl (on ?_)))))
        cases hr139
        exact cu ⟨rfl, tv⟩
      ·have hr140 := if_n hb129 hx127
       refine gf hb129 rfl (gf hb129 rfl (gf hb129 rfl (pf hb129 rfl rfl (m1 rfl (gF rfl rfl rfl rfl (gF rfl rfl rfl rfl (gF rfl rfl rfl rfl (pF rfl rfl rfl rfl (a1 rfl (on ?_))))))))))
       cases hr140
       exact cu ⟨rfl, tv⟩
     ·rintro a w ⟨hS, hA⟩
      refine TG.ap ?_ hS hA
      refine rt_ ?_
      cases hr128
      intro a w hS hA
      refine ret1 hA rfl rfl ?_
      exact ⟨rfl, hS.ext⟩

theorem w30 {M : Prop} {W : World} {cs_a_0 : List Value} (a_0 : Erratum) (h_a_0 : (Flat encErratum) (hp W) cs_a_0 a_0) {cs_b_1 : List Value} (b_1 : Erratum) (h_b_1 : (Flat encErratum) (hp W) cs_b_1 b_1) {r : Bool} (hr : m30 a_0 b_1 = some r) : Calls Tryz.prog 30 [.agg cs_a_0.toArray, .agg cs_b_1.toArray].toArray W (RetS M W (.bool r)) := by
 obtain rfl := h_a_0
 obtain rfl := h_b_1
 unfold m30 at hr
 refine enterG (M := M) Tryz.func30 rfl Tryz.ntmps30 rfl (Hp.le.refl _) ?_
 refine sq (rg (bI (cs := [.int .i64 a_0.number, .int .i64 a_0.day, .int .u8 a_0.kind, .int .i64 a_0.anchor, .string (bs a_0.text), .int .i64 a_0.new_]) rfl rfl rfl fun q1 K2 hK3 => (bI (cs := [.int .i64 b_1.number, .int .i64 b_1.day, .int .u8 b_1.kind, .int .i64 b_1.anchor, .string (bs b_1.text), .int .i64 b_1.new_]) rfl rfl rfl fun q4 K5 hK6 => (a1 rfl (on (sq ?_))))))
 obtain ⟨t13, hx14, hr15⟩ := bd_some hr
 refine jn (fun a w => St M W (hp W) [K5, K2, (hp W)] [] w ∧ Has [] 24 a [(4, .bool t13)]) ?_ ?_
 ·refine rg (fb 1 U97 rfl rfl rfl rfl Z3 (ld G3 rfl rfl (((sS 1 rfl hK3).drop 1).take 1) rfl (fb 1 U97 rfl rfl rfl rfl Z3 (ld G3 rfl rfl (((sS 0 rfl hK6).drop 1).take 1) rfl (ltI rfl rfl rfl (m1 rfl ?_))))))
  by_cases hb16 : a_0.day < b_1.day
  ·have hr17 := if_p hb16 hx14
   refine gf' hb16 rfl (gf' hb16 rfl (gf' hb16 rfl (gf' hb16 rfl (gf' hb16 rfl (gf' hb16 rfl (gU rfl rfl rfl (gU rfl rfl rfl (gU rfl rfl rfl (gU rfl rfl rfl (gU rfl rfl rfl (gf' hb16 rfl ?_)))))))))))
   refine pt hb16 rfl rfl (a1 rfl (on ?_))
   cases hr17
   exact cu ⟨rfl, tv⟩
  ·have hr18 := if_n hb16 hx14
   refine gt' hb16 rfl (fb 1 U97 rfl rfl rfl rfl Z3 (gt' hb16 rfl (ld G3 rfl rfl (((sS 1 rfl hK3).drop 1).take 1) rfl (gt' hb16 rfl (fb 1 U97 rfl rfl rfl rfl Z3 (gt' hb16 rfl (ld G3 rfl rfl (((sS 0 rfl hK6).drop 1).take 1) rfl (gt' hb16 rfl (eqI rfl rfl rfl (gt' hb16 rfl (m1 rfl ?_)))))))))))
   by_cases hb19 : a_0.day = b_1.day
   ·have hr20 := if_p hb19 hr18
    refine gt hb19 rfl (fb 0 U97 rfl rfl rfl rfl Z3 (gt hb19 rfl (ld G3 rfl rfl ((sS 1 rfl hK3).take 1) rfl (gt hb19 rfl (fb 0 U97 rfl rfl rfl rfl Z3 (gt hb19 rfl (ld G3 rfl rfl ((sS 0 rfl hK6).take 1) rfl (gt hb19 rfl (ltI rfl rfl rfl (gt' hb16 rfl (pt hb19 rfl rfl ?_)))))))))))
    refine pf hb16 rfl rfl (a1 rfl (on ?_))
    cases hr20
    exact cu ⟨rfl, tv⟩
   ·have hr21 := if_n hb19 hr18
    refine gf hb19 rfl (gf hb19 rfl (gf hb19 rfl (gf hb19 rfl (gf hb19 rfl (gt' hb16 rfl (pf hb19 rfl rfl (pf hb16 rfl rfl (a1 rfl (on ?_)))))))))
    cases hr21
    exact cu ⟨rfl, tv⟩
 ·rintro a w ⟨hS, hA⟩
  refine TG.ap ?_ hS hA
  refine rt_ ?_
  cases hr15
  intro a w hS hA
  refine ret1 hA rfl rfl ?_
  exact ⟨rfl, hS.ext⟩

theorem w7 {M : Prop} {W : World} {H : Hp} (hH : H.le (hp W)) {cs_v_0 : List Value} (v_0 : Volume) (h_v_0 : (RVolume) H cs_v_0 v_0) {ad_errata : Option Addr} {cap_errata : Nat} {errata : List Erratum} (h_errata : Sl (Flat encErratum) 6 H ad_errata cap_errata errata) {r : Int} (hr : m7 v_0 errata = some r) : Calls Tryz.prog 7 [.agg cs_v_0.toArray, .slice ad_errata errata.length cap_errata].toArray W (RetS M W (.int .i64 r)) := by
 have hh_v_0 := h_v_0
 obtain ⟨ad1, cap2, rfl, hl3⟩ := h_v_0
 have := hl3.len
 have := h_errata.len
 unfold m7 at hr
 refine enterG (M := M) Tryz.func7 rfl Tryz.ntmps7 rfl hH ?_
 refine sq (rg (bI (cs := [.int .i64 v_0.number, .int .i64 v_0.bound, .int .i64 v_0.height, .int .i64 v_0.width, .slice ad1 v_0.parts.length cap2]) rfl rfl rfl fun q4 K5 hK6 => (a1 rfl (on (sq (sq (rg (m1 rfl (lnL U25 rfl rfl (gtI rfl rfl rfl (on ?_)))))))))))
 refine ci rfl (fun hc10 => ?_) (fun hc10 => ?_)
 ·have hr11 := if_p hc10 hr
  refine sq (rg (a1 rfl (on (rt_ ?_))))
  cases hr11
  intro a w hS hA
  refine ret1 hA rfl rfl ?_
  exact ⟨rfl, hS.ext⟩
 ·have hr12 := if_n hc10 hr
  refine sk (sq (sq (rg (a1 rfl (on ?_)))))
  obtain ⟨e31, hl32, hr33⟩ := bd_some hr12
  refine jn (fun a w => ∃ t34, e31 = .inl t34 ∧ St M W H [K5, H] [] w ∧ Has [] 180 a [(1, .slice ad_errata errata.length cap_errata), (2, .pointer (some q4))]) ?_ ?_
  ·refine bk ?_
   refine lp hl32 (fun s35 a w => St M W H [K5, H] [] w ∧ Has [] 180 a [(1, .slice ad_errata errata.length cap_errata), (2, .pointer (some q4)), (5, .int .i64 (s35 : Int))]) ?_ ?_
   ·exact cu ⟨rfl, rfl, rfl, tv⟩
   ·rintro j s35 y38 hr36 hz37 a w ⟨hS, hA⟩
    refine TG.ap ?_ hS hA
    unfold m7_1 at hr36
    refine sq (sq (rg (m1 rfl (m1 rfl (lnL U25 rfl rfl (ltI rfl rfl rfl (on ?_)))))))
    refine ci rfl (fun hc42 => ?_) (fun hc42 => ?_)
    ·have hr43 := if_p hc42 hr36
     refine sk (sq (bk (sq (rg (m1 rfl (m1 rfl ?_))))))
     obtain ⟨x58, hx59, hr60⟩ := bd_some hr43
     obtain ⟨p61, rfl⟩ := h_errata.adr hx59
     obtain ⟨cs62, hcs63, hq64, hr65⟩ := h_errata.at hx59
     obtain rfl := hr65
     refine iaP U25 Z97 rfl rfl rfl rfl (lt_of hx59) (ldA G97 Z97 rfl rfl (sS 1 rfl hq64) rfl ?_)
     obtain ⟨r66, hx67, hr68⟩ := bd_some hr60
     refine clS C29 rfl rfl rfl rfl (fun w H hH le => w29 x58 rfl hx67) (nt rfl rfl (on ?_))
     refine cb rfl (fun hc72 => ?_) (fun hc72 => ?_)
     ·replace hc72 := nbt hc72
      have hr73 := if_f hc72 hr68
      refine sq (rg (a1 rfl (on (rt_ ?_))))
      cases hr73
      obtain rfl := Fin.out hz37
      cases hr33
      intro a w hS hA
      refine ret1 hA rfl rfl ?_
      exact ⟨rfl, hS.ext⟩
     ·replace hc72 := nbf hc72
      have hr74 := if_p hc72 hr68
      refine sk (rg (m1 rfl (adI rfl rfl rfl (by omega) (a1 rfl (on ?_)))))
      cases hr74
      intro a w hS hA
      exact ⟨_, hz37, hS, hA.cut ⟨rfl, rfl, rfl, tv⟩⟩
    ·have hr75 := if_n hc42 hr36
     refine xt rfl ?_
     cases hr75
     obtain rfl := Fin.out hz37
     intro a w hS hA
     exact ⟨_, rfl, hS, hA.cut ⟨rfl, rfl, tv⟩⟩
  ·rintro a w ⟨t34, rfl, hS, hA⟩
   refine TG.ap ?_ hS hA
   refine sq (rg (ldA G24 Z24 rfl rfl (sS 0 rfl hK6) rfl ?_))
   obtain ⟨r76, hx77, hr78⟩ := bd_some hr33
   refine clK C26 rfl rfl rfl rfl (fun w H hH le => w26 hH v_0 (RVolume.mono _ _ _ _ (le.at 1 rfl) hh_v_0) hx77) ?_
   rintro v_ K79 ⟨ad80, cap81, rfl, hl82⟩
   have := hl82.len
   refine a1 rfl (on (sq (sq (rg (a1 rfl (on ?_))))))
   obtain ⟨e158, hl159, hr160⟩ := bd_some hr78
   refine jn (fun a w => ∃ t161, e158 = .inl t161 ∧ St M W H [K79, K5, H] [] w ∧ Has [] 180 a [(1, .slice ad_errata errata.length cap_errata), (6, .slice ad80 r76.length cap81)]) ?_ ?_
   ·refine bk ?_
    refine lp hl159 (fun s162 a w => St M W H [K79, K5, H] [] w ∧ Has [] 180 a [(1, .slice ad_errata errata.length cap_errata), (6, .slice ad80 r76.length cap81), (7, .int .i64 (s162 : Int))]) ?_ ?_
    ·exact cu ⟨rfl, rfl, rfl, tv⟩
    ·rintro j s162 y165 hr163 hz164 a w ⟨hS, hA⟩
     refine TG.ap ?_ hS hA
     unfold m7_2 at hr163
     refine sq (sq (rg (m1 rfl (m1 rfl (lnL U25 rfl rfl (ltI rfl rfl rfl (on ?_)))))))
     refine ci rfl (fun hc169 => ?_) (fun hc169 => ?_)
     ·have hr170 := if_p hc169 hr163
      refine sk (sq (bk (sq (sq (rg (a1 rfl (on ?_)))))))
      obtain ⟨e282, hl283, hr284⟩ := bd_some hr170
      refine jn (fun a w => ∃ t285, e282 = .inl t285 ∧ St M W H [K79, K5, H] [] w ∧ Has [] 180 a [(1, .slice ad_errata errata.length cap_errata), (6, .slice ad80 r76.length cap81), (7, .int .i64 (s162 : Int))]) ?_ ?_
      ·refine bk ?_
       refine lp hl283 (fun s286 a w => St M W H [K79, K5, H] [] w ∧ Has [] 180 a [(1, .slice ad_errata errata.length cap_errata), (6, .slice ad80 r76.length cap81), (7, .int .i64 (s162 : Int)), (8, .int .i64 (s286 : Int))]) ?_ ?_
       ·exact cu ⟨rfl, rfl, rfl, rfl, tv⟩
       ·rintro j s286 y289 hr287 hz288 a w ⟨hS, hA⟩
        refine TG.ap ?_ hS hA
        unfold m7_3 at hr287
        refine sq (sq (rg (m1 rfl (m1 rfl (lnL U25 rfl rfl (ltI rfl rfl rfl (on ?_)))))))
        refine ci rfl (fun hc293 => ?_) (fun hc293 => ?_)
        ·have hr294 := if_p hc293 hr287
         refine sk (sq (bk (sq ?_)))
         obtain ⟨t363, hx364, hr365⟩ := bd_some hr294
         refine jn (fun a w => St M W H [K79, K5, H] [] w ∧ Has [] 180 a [(1, .slice ad_errata errata.length cap_errata), (6, .slice ad80 r76.length cap81), (7, .int .i64 (s162 : Int)), (8, .int .i64 (s286 : Int)), (87, .bool t363)]) ?_ ?_
         ·by_cases hb366 : (s286 : Int) ≠ (s162 : Int)
          ·have hr367 := if_p hb366 hx364
           obtain ⟨x368, hx369, hr370⟩ := bd_some hr367
           obtain ⟨p371, rfl⟩ := h_errata.adr hx369
           obtain ⟨cs372, hcs373, hq374, hr375⟩ := h_errata.at hx369
           obtain rfl := hr375
           obtain ⟨x376, hx377, hr378⟩ := bd_some hr370
           obtain ⟨cs379, hcs380, hq381, hr382⟩ := h_errata.at hx377
           obtain rfl := hr382
           by_cases hb383 : x368.number = x376.number
           ·have hr384 := if_p hb383 hr378
            refine drG 41 mixed (by kernel_rfl) rfl (dt rfl (m1 rfl fin1) (dt rfl (m1 rfl fin1) (dt rfl (neI rfl rfl rfl fin1) (dt rfl (m1 rfl fin1) (dt rfl (gt hb366 rfl (m1 rfl fin1)) (dt rfl (gt hb366 rfl (m1 rfl fin1)) (dt rfl (gt hb366 rfl (iaP U25 Z97 rfl rfl rfl rfl (lt_of hx369) fin1)) (dt rfl (gt hb366 rfl (fb 0 U97 rfl rfl rfl rfl Z3 fin1)) (dt rfl (gt hb366 rfl (ld G3 rfl rfl ((sS 3 rfl hq374).take 1) rfl fin1)) (dt rfl (gt hb366 rfl (m1 rfl fin1)) (dt rfl (gt hb366 rfl (m1 rfl fin1)) ?_)))))))))))
            refine dt rfl (gt hb366 rfl (iaP U25 Z97 rfl rfl rfl rfl (lt_of hx377) fin1)) (dt rfl (gt hb366 rfl (fb 0 U97 rfl rfl rfl rfl Z3 fin1)) (dt rfl (gt hb366 rfl (ld G3 rfl rfl ((sS 3 rfl hq381).take 1) rfl fin1)) (dt rfl (gt hb366 rfl (eqI rfl rfl rfl fin1)) (dt rfl (gt hb366 rfl (m1 rfl fin1)) (dt rfl (gf' hb383 rfl fin1) (dt rfl (gf' hb383 rfl fin1) (dt rfl (gf' hb383 rfl fin1) (dt rfl (gf' hb383 rfl fin1) (dt rfl (gf' hb383 rfl fin1) (dt rfl (gf' hb383 rfl fin1) (dt rfl (gf' hb383 rfl fin1) ?_)))))))))))
            refine dt rfl (gU rfl rfl rfl fin1) (dt rfl (gU rfl rfl rfl fin1) (dt rfl (gU rfl rfl rfl fin1) (dt rfl (gU rfl rfl rfl fin1) (dt rfl (gU rfl rfl rfl fin1) (dt rfl (gU rfl rfl rfl fin1) (dt rfl (gf' hb383 rfl fin1) (dt rfl (gf' hb383 rfl fin1) (dt rfl (gU rfl rfl rfl fin1) (dt rfl (gU rfl rfl rfl fin1) (dt rfl (gU rfl rfl rfl fin1) (dt rfl (gU rfl rfl rfl fin1) ?_)))))))))))
            refine dt rfl (gU rfl rfl rfl fin1) (dt rfl (gU rfl rfl rfl fin1) (dt rfl (gU rfl rfl rfl fin1) (dt rfl (gU rfl rfl rfl fin1) (dt rfl (gU rfl rfl rfl fin1) (dt rfl (gU rfl rfl rfl fin1) (DF.nil fun K385 hF => (gU rfl rfl rfl (gf' hb383 rfl (gt hb366 rfl (pt hb383 rfl rfl (pt hb366 rfl rfl ?_)))))))))))
            refine on ?_
            cases hr384
            intro a w hS hA
            exact ⟨hS.selH [1, 2, 3] rfl, hA.cut ⟨rfl, rfl, rfl, rfl, rfl, tv⟩⟩
           ·have hr386 := if_n hb383 hr378
            by_cases hb387 : x376.kind = 2
            ·have hr388 := if_p hb387 hr386
             by_cases hb389 : x368.kind = 2
             ·have hr390 := if_p hb389 hr388
              refine drG 41 mixed (by kernel_rfl) rfl (dt rfl (m1 rfl fin1) (dt rfl (m1 rfl fin1) (dt rfl (neI rfl rfl rfl fin1) (dt rfl (m1 rfl fin1) (dt rfl (gt hb366 rfl (m1 rfl fin1)) (dt rfl (gt hb366 rfl (m1 rfl fin1)) (dt rfl (gt hb366 rfl (iaP U25 Z97 rfl rfl rfl rfl (lt_of hx369) fin1)) (dt rfl (gt hb366 rfl (fb 0 U97 rfl rfl rfl rfl Z3 fin1)) (dt rfl (gt hb366 rfl (ld G3 rfl rfl ((sS 3 rfl hq374).take 1) rfl fin1)) (dt rfl (gt hb366 rfl (m1 rfl fin1)) (dt rfl (gt hb366 rfl (m1 rfl fin1)) ?_)))))))))))
              refine dt rfl (gt hb366 rfl (iaP U25 Z97 rfl rfl rfl rfl (lt_of hx377) fin1)) (dt rfl (gt hb366 rfl (fb 0 U97 rfl rfl rfl rfl Z3 fin1)) (dt rfl (gt hb366 rfl (ld G3 rfl rfl ((sS 3 rfl hq381).take 1) rfl fin1)) (dt rfl (gt hb366 rfl (eqI rfl rfl rfl fin1)) (dt rfl (gt hb366 rfl (m1 rfl fin1)) (dt rfl (gt' hb383 rfl (m1 rfl fin1)) (dt rfl (gt' hb383 rfl (m1 rfl fin1)) (dt rfl (gt' hb383 rfl (iaP U25 Z97 rfl rfl rfl rfl (lt_of hx377) fin1)) (dt rfl (gt' hb383 rfl (fb 2 U97 rfl rfl rfl rfl Z5 fin1)) (dt rfl (gt' hb383 rfl (ld G5 rfl rfl (((sS 3 rfl hq381).drop 2).take 1) rfl fin1)) (dt rfl (gt' hb383 rfl (eqI rfl rfl rfl fin1)) (dt rfl (gt' hb383 rfl (m1 rfl fin1)) ?_)))))))))))
              refine dt rfl (gt hb387 rfl (m1 rfl fin1)) (dt rfl (gt hb387 rfl (m1 rfl fin1)) (dt rfl (gt hb387 rfl (iaP U25 Z97 rfl rfl rfl rfl (lt_of hx369) fin1)) (dt rfl (gt hb387 rfl (fb 2 U97 rfl rfl rfl rfl Z5 fin1)) (dt rfl (gt hb387 rfl (ld G5 rfl rfl (((sS 3 rfl hq374).drop 2).take 1) rfl fin1)) (dt rfl (gt hb387 rfl (eqI rfl rfl rfl fin1)) (dt rfl (gt' hb383 rfl (pt hb387 rfl rfl fin1)) (dt rfl (gt' hb383 rfl (m1 rfl fin1)) (dt rfl (gt hb389 rfl (m1 rfl fin1)) (dt rfl (gt hb389 rfl (m1 rfl fin1)) (dt rfl (gt hb389 rfl (iaP U25 Z97 rfl rfl rfl rfl (lt_of hx369) fin1)) (dt rfl (gt hb389 rfl (fb 5 U97 rfl rfl rfl rfl Z3 fin1)) ?_)))))))))))
              refine dt rfl (gt hb389 rfl (ld G3 rfl rfl ((sS 3 rfl hq374).drop 5) rfl fin1)) (dt rfl (gt hb389 rfl (m1 rfl fin1)) (dt rfl (gt hb389 rfl (m1 rfl fin1)) (dt rfl (gt hb389 rfl (iaP U25 Z97 rfl rfl rfl rfl (lt_of hx377) fin1)) (dt rfl (gt hb389 rfl (fb 5 U97 rfl rfl rfl rfl Z3 fin1)) (dt rfl (gt hb389 rfl (ld G3 rfl rfl ((sS 3 rfl hq381).drop 5) rfl fin1)) (DF.nil fun K391 hF => (gt hb389 rfl (eqI rfl rfl rfl (gt' hb383 rfl (pt hb389 rfl rfl (gt hb366 rfl ?_)))))))))))
              refine pf hb383 rfl rfl (pt hb366 rfl rfl (on ?_))
              cases hr390
              intro a w hS hA
              exact ⟨hS.selH [1, 2, 3] rfl, hA.cut ⟨rfl, rfl, rfl, rfl, rfl, tv⟩⟩
             ·have hr392 := if_n hb389 hr388
              refine drG 41 mixed (by kernel_rfl) rfl (dt rfl (m1 rfl fin1) (dt rfl (m1 rfl fin1) (dt rfl (neI rfl rfl rfl fin1) (dt rfl (m1 rfl fin1) (dt rfl (gt hb366 rfl (m1 rfl fin1)) (dt rfl (gt hb366 rfl (m1 rfl fin1)) (dt rfl (gt hb366 rfl (iaP U25 Z97 rfl rfl rfl rfl (lt_of hx369) fin1)) (dt rfl (gt hb366 rfl (fb 0 U97 rfl rfl rfl rfl Z3 fin1)) (dt rfl (gt hb366 rfl (ld G3 rfl rfl ((sS 3 rfl hq374).take 1) rfl fin1)) (dt rfl (gt hb366 rfl (m1 rfl fin1)) (dt rfl (gt hb366 rfl (m1 rfl fin1)) ?_)))))))))))
              refine dt rfl (gt hb366 rfl (iaP U25 Z97 rfl rfl rfl rfl (lt_of hx377) fin1)) (dt rfl (gt hb366 rfl (fb 0 U97 rfl rfl rfl rfl Z3 fin1)) (dt rfl (gt hb366 rfl (ld G3 rfl rfl ((sS 3 rfl hq381).take 1) rfl fin1)) (dt rfl (gt hb366 rfl (eqI rfl rfl rfl fin1)) (dt rfl (gt hb366 rfl (m1 rfl fin1)) (dt rfl (gt' hb383 rfl (m1 rfl fin1)) (dt rfl (gt' hb383 rfl (m1 rfl fin1)) (dt rfl (gt' hb383 rfl (iaP U25 Z97 rfl rfl rfl rfl (lt_of hx377) fin1)) (dt rfl (gt' hb383 rfl (fb 2 U97 rfl rfl rfl rfl Z5 fin1)) (dt rfl (gt' hb383 rfl (ld G5 rfl rfl (((sS 3 rfl hq381).drop 2).take 1) rfl fin1)) (dt rfl (gt' hb383 rfl (eqI rfl rfl rfl fin1)) (dt rfl (gt' hb383 rfl (m1 rfl fin1)) ?_)))))))))))
              refine dt rfl (gt hb387 rfl (m1 rfl fin1)) (dt rfl (gt hb387 rfl (m1 rfl fin1)) (dt rfl (gt hb387 rfl (iaP U25 Z97 rfl rfl rfl rfl (lt_of hx369) fin1)) (dt rfl (gt hb387 rfl (fb 2 U97 rfl rfl rfl rfl Z5 fin1)) (dt rfl (gt hb387 rfl (ld G5 rfl rfl (((sS 3 rfl hq374).drop 2).take 1) rfl fin1)) (dt rfl (gt hb387 rfl (eqI rfl rfl rfl fin1)) (dt rfl (gt' hb383 rfl (pt hb387 rfl rfl fin1)) (dt rfl (gt' hb383 rfl (m1 rfl fin1)) (dt rfl (gf hb389 rfl fin1) (dt rfl (gf hb389 rfl fin1) (dt rfl (gf hb389 rfl fin1) (dt rfl (gf hb389 rfl fin1) ?_)))))))))))
              refine dt rfl (gf hb389 rfl fin1) (dt rfl (gf hb389 rfl fin1) (dt rfl (gf hb389 rfl fin1) (dt rfl (gf hb389 rfl fin1) (dt rfl (gf hb389 rfl fin1) (dt rfl (gf hb389 rfl fin1) (DF.nil fun K393 hF => (gf hb389 rfl (gt' hb383 rfl (pf hb389 rfl rfl (gt hb366 rfl (pf hb383 rfl rfl ?_)))))))))))
              refine pt hb366 rfl rfl (on ?_)
              cases hr392
              intro a w hS hA
              exact ⟨hS.selH [1, 2, 3] rfl, hA.cut ⟨rfl, rfl, rfl, rfl, rfl, tv⟩⟩
            ·have hr394 := if_n hb387 hr386
             refine drG 41 mixed (by kernel_rfl) rfl (dt rfl (m1 rfl fin1) (dt rfl (m1 rfl fin1) (dt rfl (neI rfl rfl rfl fin1) (dt rfl (m1 rfl fin1) (dt rfl (gt hb366 rfl (m1 rfl fin1)) (dt rfl (gt hb366 rfl (m1 rfl fin1)) (dt rfl (gt hb366 rfl (iaP U25 Z97 rfl rfl rfl rfl (lt_of hx369) fin1)) (dt rfl (gt hb366 rfl (fb 0 U97 rfl rfl rfl rfl Z3 fin1)) (dt rfl (gt hb366 rfl (ld G3 rfl rfl ((sS 3 rfl hq374).take 1) rfl fin1)) (dt rfl (gt hb366 rfl (m1 rfl fin1)) (dt rfl (gt hb366 rfl (m1 rfl fin1)) ?_)))))))))))
             refine dt rfl (gt hb366 rfl (iaP U25 Z97 rfl rfl rfl rfl (lt_of hx377) fin1)) (dt rfl (gt hb366 rfl (fb 0 U97 rfl rfl rfl rfl Z3 fin1)) (dt rfl (gt hb366 rfl (ld G3 rfl rfl ((sS 3 rfl hq381).take 1) rfl fin1)) (dt rfl (gt hb366 rfl (eqI rfl rfl rfl fin1)) (dt rfl (gt hb366 rfl (m1 rfl fin1)) (dt rfl (gt' hb383 rfl (m1 rfl fin1)) (dt rfl (gt' hb383 rfl (m1 rfl fin1)) (dt rfl (gt' hb383 rfl (iaP U25 Z97 rfl rfl rfl rfl (lt_of hx377) fin1)) (dt rfl (gt' hb383 rfl (fb 2 U97 rfl rfl rfl rfl Z5 fin1)) (dt rfl (gt' hb383 rfl (ld G5 rfl rfl (((sS 3 rfl hq381).drop 2).take 1) rfl fin1)) (dt rfl (gt' hb383 rfl (eqI rfl rfl rfl fin1)) (dt rfl (gt' hb383 rfl (m1 rfl fin1)) ?_)))))))))))
             refine dt rfl (gf hb387 rfl fin1) (dt rfl (gf hb387 rfl fin1) (dt rfl (gf hb387 rfl fin1) (dt rfl (gf hb387 rfl fin1) (dt rfl (gf hb387 rfl fin1) (dt rfl (gf hb387 rfl fin1) (dt rfl (gt' hb383 rfl (pf hb387 rfl rfl fin1)) (dt rfl (gt' hb383 rfl (m1 rfl fin1)) (dt rfl (gF rfl rfl rfl rfl fin1) (dt rfl (gF rfl rfl rfl rfl fin1) (dt rfl (gF rfl rfl rfl rfl fin1) (dt rfl (gF rfl rfl rfl rfl fin1) ?_)))))))))))
             refine dt rfl (gF rfl rfl rfl rfl fin1) (dt rfl (gF rfl rfl rfl rfl fin1) (dt rfl (gF rfl rfl rfl rfl fin1) (dt rfl (gF rfl rfl rfl rfl fin1) (dt rfl (gF rfl rfl rfl rfl fin1) (dt rfl (gF rfl rfl rfl rfl fin1) (DF.nil fun K395 hF => (gF rfl rfl rfl rfl (gt' hb383 rfl (pF rfl rfl rfl rfl (gt hb366 rfl (pf hb383 rfl rfl ?_)))))))))))
             refine pt hb366 rfl rfl (on ?_)
             cases hr394
             intro a w hS hA
             exact ⟨hS.selH [1, 2, 3] rfl, hA.cut ⟨rfl, rfl, rfl, rfl, rfl, tv⟩⟩
          ·have hr396 := if_n hb366 hx364
           refine drG 41 mixed (by kernel_rfl) rfl (dt rfl (m1 rfl fin1) (dt rfl (m1 rfl fin1) (dt rfl (neI rfl rfl rfl fin1) (dt rfl (m1 rfl fin1) (dt rfl (gf hb366 rfl fin1) (dt rfl (gf hb366 rfl fin1) (dt rfl (gf hb366 rfl fin1) (dt rfl (gf hb366 rfl fin1) (dt rfl (gf hb366 rfl fin1) (dt rfl (gf hb366 rfl fin1) (dt rfl (gf hb366 rfl fin1) ?_)))))))))))
           refine dt rfl (gf hb366 rfl fin1) (dt rfl (gf hb366 rfl fin1) (dt rfl (gf hb366 rfl fin1) (dt rfl (gf hb366 rfl fin1) (dt rfl (gf hb366 rfl fin1) (dt rfl (gU rfl rfl rfl fin1) (dt rfl (gU rfl rfl rfl fin1) (dt rfl (gU rfl rfl rfl fin1) (dt rfl (gU rfl rfl rfl fin1) (dt rfl (gU rfl rfl rfl fin1) (dt rfl (gU rfl rfl rfl fin1) (dt rfl (gU rfl rfl rfl fin1) ?_)))))))))))
           refine dt rfl (gU rfl rfl rfl fin1) (dt rfl (gU rfl rfl rfl fin1) (dt rfl (gU rfl rfl rfl fin1) (dt rfl (gU rfl rfl rfl fin1) (dt rfl (gU rfl rfl rfl fin1) (dt rfl (gU rfl rfl rfl fin1) (dt rfl (gU rfl rfl rfl fin1) (dt rfl (gU rfl rfl rfl fin1) (dt rfl (gU rfl rfl rfl fin1) (dt rfl (gU rfl rfl rfl fin1) (dt rfl (gU rfl rfl rfl fin1) (dt rfl (gU rfl rfl rfl fin1) ?_)))))))))))
           refine dt rfl (gU rfl rfl rfl fin1) (dt rfl (gU rfl rfl rfl fin1) (dt rfl (gU rfl rfl rfl fin1) (dt rfl (gU rfl rfl rfl fin1) (dt rfl (gU rfl rfl rfl fin1) (dt rfl (gU rfl rfl rfl fin1) (DF.nil fun K397 hF => (gU rfl rfl rfl (gU rfl rfl rfl (gf hb366 rfl (pf hb366 rfl rfl (on ?_)))))))))))
           cases hr396
           intro a w hS hA
           exact ⟨hS.selH [1, 2, 3] rfl, hA.cut ⟨rfl, rfl, rfl, rfl, rfl, tv⟩⟩
         ·rintro a w ⟨hS, hA⟩
          refine TG.ap ?_ hS hA
          refine cb rfl (fun hc401 => ?_) (fun hc401 => ?_)
          ·have hr402 := if_p hc401 hr365
           refine sq (rg (a1 rfl (on (rt_ ?_))))
           cases hr402
           obtain rfl := Fin.out hz288
           cases hr284
           obtain rfl := Fin.out hz164
           cases hr160
           intro a w hS hA
           refine ret1 hA rfl rfl ?_
           exact ⟨rfl, hS.ext⟩
          ·have hr403 := if_f hc401 hr365
           refine sk (rg (m1 rfl (adI rfl rfl rfl (by omega) (a1 rfl (on ?_)))))
           cases hr403
           intro a w hS hA
           exact ⟨_, hz288, hS, hA.cut ⟨rfl, rfl, rfl, rfl, tv⟩⟩
        ·have hr404 := if_n hc293 hr287
         refine xt rfl ?_
         cases hr404
         obtain rfl := Fin.out hz288
         intro a w hS hA
         exact ⟨_, rfl, hS, hA.cut ⟨rfl, rfl, rfl, tv⟩⟩
      ·rintro a w ⟨t285, rfl, hS, hA⟩
       refine TG.ap ?_ hS hA
       refine sq (rg (a1 rfl (on ?_)))
       obtain ⟨e434, hl435, hr436⟩ := bd_some hr284
       refine jn (fun a w => ∃ t437, e434 = .inl t437 ∧ St M W H [K79, K5, H] [] w ∧ Has [] 180 a [(1, .slice ad_errata errata.length cap_errata), (6, .slice ad80 r76.length cap81), (7, .int .i64 (s162 : Int))]) ?_ ?_
       ·refine bk ?_
        refine lp hl435 (fun s438 a w => St M W H [K79, K5, H] [] w ∧ Has [] 180 a [(1, .slice ad_errata errata.length cap_errata), (6, .slice ad80 r76.length cap81), (7, .int .i64 (s162 : Int)), (9, .int .i64 (s438 : Int))]) ?_ ?_
        ·exact cu ⟨rfl, rfl, rfl, rfl, tv⟩
        ·rintro j s438 y441 hr439 hz440 a w ⟨hS, hA⟩
         refine TG.ap ?_ hS hA
         unfold m7_4 at hr439
         refine sq (sq (rg (m1 rfl (m1 rfl (lnL U92 rfl rfl (ltI rfl rfl rfl (on ?_)))))))
         refine ci rfl (fun hc445 => ?_) (fun hc445 => ?_)
         ·have hr446 := if_p hc445 hr439
          refine sk (sq (bk (sq ?_)))
          obtain ⟨t493, hx494, hr495⟩ := bd_some hr446
          refine jn (fun a w => St M W H [K79, K5, H] [] w ∧ Has [] 180 a [(1, .slice ad_errata errata.length cap_errata), (6, .slice ad80 r76.length cap81), (7, .int .i64 (s162 : Int)), (9, .int .i64 (s438 : Int)), (112, .bool t493)]) ?_ ?_
          ·obtain ⟨x496, hx497, hr498⟩ := bd_some hx494
           obtain ⟨p499, rfl⟩ := h_errata.adr hx497
           obtain ⟨cs500, hcs501, hq502, hr503⟩ := h_errata.at hx497
           obtain rfl := hr503
           by_cases hb504 : x496.kind = 2
           ·have hr505 := if_p hb504 hr498
            obtain ⟨x506, hx507, hr508⟩ := bd_some hr505
            obtain ⟨p509, rfl⟩ := hl82.adr hx507
            obtain ⟨cs510, hcs511, hq512, hr513⟩ := hl82.at hx507
            obtain rfl := hr513
            refine drG 17 mixed (by kernel_rfl) rfl (dt rfl (m1 rfl fin1) (dt rfl (m1 rfl fin1) (dt rfl (iaP U25 Z97 rfl rfl rfl rfl (lt_of hx497) fin1) (dt rfl (fb 2 U97 rfl rfl rfl rfl Z5 fin1) (dt rfl (ld G5 rfl rfl (((sS 3 rfl hq502).drop 2).take 1) rfl fin1) (dt rfl (eqI rfl rfl rfl fin1) (dt rfl (m1 rfl fin1) (dt rfl (gt hb504 rfl (m1 rfl fin1)) (dt rfl (gt hb504 rfl (m1 rfl fin1)) (dt rfl (gt hb504 rfl (iaP U92 Z95 rfl rfl rfl rfl (lt_of hx507) fin1)) (dt rfl (gt hb504 rfl (fb 0 U95 rfl rfl rfl rfl Z3 fin1)) ?_)))))))))))
            refine dt rfl (gt hb504 rfl (ld G3 rfl rfl ((sS 1 rfl hq512).take 1) rfl fin1)) (dt rfl (gt hb504 rfl (m1 rfl fin1)) (dt rfl (gt hb504 rfl (m1 rfl fin1)) (dt rfl (gt hb504 rfl (iaP U25 Z97 rfl rfl rfl rfl (lt_of hx497) fin1)) (dt rfl (gt hb504 rfl (fb 5 U97 rfl rfl rfl rfl Z3 fin1)) (dt rfl (gt hb504 rfl (ld G3 rfl rfl ((sS 3 rfl hq502).drop 5) rfl fin1)) (DF.nil fun K514 hF => (gt hb504 rfl (eqI rfl rfl rfl (pt hb504 rfl rfl (on ?_))))))))))
            cases hr508
            intro a w hS hA
            exact ⟨hS.selH [1, 2, 3] rfl, hA.cut ⟨rfl, rfl, rfl, rfl, rfl, tv⟩⟩
           ·have hr515 := if_n hb504 hr498
            refine drG 17 mixed (by kernel_rfl) rfl (dt rfl (m1 rfl fin1) (dt rfl (m1 rfl fin1) (dt rfl (iaP U25 Z97 rfl rfl rfl rfl (lt_of hx497) fin1) (dt rfl (fb 2 U97 rfl rfl rfl rfl Z5 fin1) (dt rfl (ld G5 rfl rfl (((sS 3 rfl hq502).drop 2).take 1) rfl fin1) (dt rfl (eqI rfl rfl rfl fin1) (dt rfl (m1 rfl fin1) (dt rfl (gf hb504 rfl fin1) (dt rfl (gf hb504 rfl fin1) (dt rfl (gf hb504 rfl fin1) (dt rfl (gf hb504 rfl fin1) ?_)))))))))))
            refine dt rfl (gf hb504 rfl fin1) (dt rfl (gf hb504 rfl fin1) (dt rfl (gf hb504 rfl fin1) (dt rfl (gf hb504 rfl fin1) (dt rfl (gf hb504 rfl fin1) (dt rfl (gf hb504 rfl fin1) (DF.nil fun K516 hF => (gf hb504 rfl (pf hb504 rfl rfl (on ?_)))))))))
            cases hr515
            intro a w hS hA
            exact ⟨hS.selH [1, 2, 3] rfl, hA.cut ⟨rfl, rfl, rfl, rfl, rfl, tv⟩⟩
          ·rintro a w ⟨hS, hA⟩
           refine TG.ap ?_ hS hA
           refine cb rfl (fun hc520 => ?_) (fun hc520 => ?_)
           ·have hr521 := if_p hc520 hr495
            refine sq (rg (a1 rfl (on (rt_ ?_))))
            cases hr521
            obtain rfl := Fin.out hz440
            cases hr436
            obtain rfl := Fin.out hz164
            cases hr160
            intro a w hS hA
            refine ret1 hA rfl rfl ?_
            exact ⟨rfl, hS.ext⟩
           ·have hr522 := if_f hc520 hr495
            refine sk (rg (m1 rfl (adI rfl rfl rfl (by omega) (a1 rfl (on ?_)))))
            cases hr522
            intro a w hS hA
            exact ⟨_, hz440, hS, hA.cut ⟨rfl, rfl, rfl, rfl, tv⟩⟩
         ·have hr523 := if_n hc445 hr439
          refine xt rfl ?_
          cases hr523
          obtain rfl := Fin.out hz440
          intro a w hS hA
          exact ⟨_, rfl, hS, hA.cut ⟨rfl, rfl, rfl, tv⟩⟩
       ·rintro a w ⟨t437, rfl, hS, hA⟩
        refine TG.ap ?_ hS hA
        refine rg (m1 rfl (adI rfl rfl rfl (by omega) (a1 rfl (on ?_))))
        cases hr436
        intro a w hS hA
        exact ⟨_, hz164, hS, hA.cut ⟨rfl, rfl, rfl, tv⟩⟩
     ·have hr524 := if_n hc169 hr163
      refine xt rfl ?_
      cases hr524
      obtain rfl := Fin.out hz164
      intro a w hS hA
      exact ⟨_, rfl, hS, hA.cut ⟨rfl, rfl, tv⟩⟩
   ·rintro a w ⟨t161, rfl, hS, hA⟩
    refine TG.ap ?_ hS hA
    refine sq (sq (rg (a1 rfl (on ?_))))
    obtain ⟨e596, hl597, hr598⟩ := bd_some hr160
    refine jn (fun a w => ∃ t599, e596 = .inl t599 ∧ St M W H [K79, K5, H] [] w ∧ Has [] 180 a []) ?_ ?_
    ·refine bk ?_
     refine lp hl597 (fun s600 a w => St M W H [K79, K5, H] [] w ∧ Has [] 180 a [(1, .slice ad_errata errata.length cap_errata), (6, .slice ad80 r76.length cap81), (10, .int .i64 (s600 : Int))]) ?_ ?_
     ·exact cu ⟨rfl, rfl, rfl, tv⟩
     ·rintro j s600 y603 hr601 hz602 a w ⟨hS, hA⟩
      refine TG.ap ?_ hS hA
      unfold m7_5 at hr601
      refine sq (sq (rg (m1 rfl (m1 rfl (lnL U25 rfl rfl (ltI rfl rfl rfl (on ?_)))))))
      refine ci rfl (fun hc607 => ?_) (fun hc607 => ?_)
      ·have hr608 := if_p hc607 hr601
       refine sk (sq (bk (sq (rg (a1 rfl (on (sq (sq (rg (a1 rfl (on ?_)))))))))))
       obtain ⟨e702, hl703, hr704⟩ := bd_some hr608
       refine jn (fun a w => St M W H [K79, K5, H] [] w ∧ Has [] 180 a [(1, .slice ad_errata errata.length cap_errata), (6, .slice ad80 r76.length cap81), (10, .int .i64 (s600 : Int)), (11, .bool e702)]) ?_ ?_
       ·refine bk ?_
        refine lp hl703 (fun s705 a w => St M W H [K79, K5, H] [] w ∧ Has [] 180 a [(1, .slice ad_errata errata.length cap_errata), (6, .slice ad80 r76.length cap81), (10, .int .i64 (s600 : Int)), (11, .bool s705.2), (12, .int .i64 (s705.1 : Int))]) ?_ ?_
        ·exact cu ⟨rfl, rfl, rfl, rfl, rfl, tv⟩
        ·rintro j s705 y708 hr706 hz707 a w ⟨hS, hA⟩
         refine TG.ap ?_ hS hA
         unfold m7_6 at hr706
         refine sq (sq (rg (m1 rfl (m1 rfl (lnL U92 rfl rfl (ltI rfl rfl rfl (on ?_)))))))
         refine ci rfl (fun hc712 => ?_) (fun hc712 => ?_)
         ·have hr713 := if_p hc712 hr706
          refine sk (sq (bk ?_))
          obtain ⟨t757, hx758, hr759⟩ := bd_some hr713
          refine jn (fun a w => St M W H [K79, K5, H] [] w ∧ Has [] 180 a [(1, .slice ad_errata errata.length cap_errata), (6, .slice ad80 r76.length cap81), (10, .int .i64 (s600 : Int)), (11, .bool t757), (12, .int .i64 (s705.1 : Int))]) ?_ ?_
          ·rcases Bool.eq_false_or_eq_true (s705.2) with hb760 | hb760
           ·have hr761 := if_p hb760 hx758
            refine drG 12 mixed (by kernel_rfl) rfl (dt rfl (m1 rfl fin1) (dt rfl (m1 rfl fin1) (dt rfl (gF rfl rfl (hb760) rfl fin1) (dt rfl (gF rfl rfl (hb760) rfl fin1) (dt rfl (gF rfl rfl (hb760) rfl fin1) (dt rfl (gF rfl rfl (hb760) rfl fin1) (dt rfl (gF rfl rfl (hb760) rfl fin1) (dt rfl (gF rfl rfl (hb760) rfl fin1) (dt rfl (gF rfl rfl (hb760) rfl fin1) (dt rfl (gF rfl rfl (hb760) rfl fin1) (dt rfl (gF rfl rfl (hb760) rfl fin1) ?_)))))))))))
            refine dt rfl (gF rfl rfl (hb760) rfl fin1) (DF.nil fun K762 hF => (gF rfl rfl (hb760) rfl (pT rfl rfl (hb760) rfl (a1 rfl (on ?_)))))
            cases hr761
            intro a w hS hA
            exact ⟨hS.selH [1, 2, 3] rfl, hA.cut ⟨rfl, rfl, rfl, rfl, rfl, tv⟩⟩
           ·have hr763 := if_f hb760 hx758
            obtain ⟨x764, hx765, hr766⟩ := bd_some hr763
            obtain ⟨p767, rfl⟩ := hl82.adr hx765
            obtain ⟨cs768, hcs769, hq770, hr771⟩ := hl82.at hx765
            obtain rfl := hr771
            obtain ⟨x772, hx773, hr774⟩ := bd_some hr766
            obtain ⟨p775, rfl⟩ := h_errata.adr hx773
            obtain ⟨cs776, hcs777, hq778, hr779⟩ := h_errata.at hx773
            obtain rfl := hr779
            refine drG 12 mixed (by kernel_rfl) rfl (dt rfl (m1 rfl fin1) (dt rfl (m1 rfl fin1) (dt rfl (gN rfl rfl (hb760) (m1 rfl fin1)) (dt rfl (gN rfl rfl (hb760) (m1 rfl fin1)) (dt rfl (gN rfl rfl (hb760) (iaP U92 Z95 rfl rfl rfl rfl (lt_of hx765) fin1)) (dt rfl (gN rfl rfl (hb760) (fb 0 U95 rfl rfl rfl rfl Z3 fin1)) (dt rfl (gN rfl rfl (hb760) (ld G3 rfl rfl ((sS 1 rfl hq770).take 1) rfl fin1)) (dt rfl (gN rfl rfl (hb760) (m1 rfl fin1)) (dt rfl (gN rfl rfl (hb760) (m1 rfl fin1)) (dt rfl (gN rfl rfl (hb760) (iaP U25 Z97 rfl rfl rfl rfl (lt_of hx773) fin1)) (dt rfl (gN rfl rfl (hb760) (fb 3 U97 rfl rfl rfl rfl Z3 fin1)) ?_)))))))))))
            refine dt rfl (gN rfl rfl (hb760) (ld G3 rfl rfl (((sS 3 rfl hq778).drop 3).take 1) rfl fin1)) (DF.nil fun K780 hF => (gN rfl rfl (hb760) (eqI rfl rfl rfl (pF rfl rfl (hb760) rfl (a1 rfl (on ?_))))))
            cases hr774
            intro a w hS hA
            exact ⟨hS.selH [1, 2, 3] rfl, hA.cut ⟨rfl, rfl, rfl, rfl, rfl, tv⟩⟩
          ·rintro a w ⟨hS, hA⟩
           refine TG.ap ?_ hS hA
           refine rg (m1 rfl (adI rfl rfl rfl (by omega) (a1 rfl (on ?_))))
           cases hr759
           intro a w hS hA
           exact ⟨_, hz707, hS, hA.cut ⟨rfl, rfl, rfl, rfl, rfl, tv⟩⟩
         ·have hr781 := if_n hc712 hr706
          refine xt rfl ?_
          cases hr781
          obtain rfl := Fin.out hz707
          exact cu ⟨rfl, rfl, rfl, rfl, tv⟩
       ·rintro a w ⟨hS, hA⟩
        refine TG.ap ?_ hS hA
        refine sq (sq (rg (a1 rfl (on ?_))))
        obtain ⟨e818, hl819, hr820⟩ := bd_some hr704
        refine jn (fun a w => St M W H [K79, K5, H] [] w ∧ Has [] 180 a [(1, .slice ad_errata errata.length cap_errata), (6, .slice ad80 r76.length cap81), (10, .int .i64 (s600 : Int)), (11, .bool e818)]) ?_ ?_
        ·refine bk ?_
         refine lp hl819 (fun s821 a w => St M W H [K79, K5, H] [] w ∧ Has [] 180 a [(1, .slice ad_errata errata.length cap_errata), (6, .slice ad80 r76.length cap81), (10, .int .i64 (s600 : Int)), (11, .bool s821.2), (13, .int .i64 (s821.1 : Int))]) ?_ ?_
         ·exact cu ⟨rfl, rfl, rfl, rfl, rfl, tv⟩
         ·rintro j s821 y824 hr822 hz823 a w ⟨hS, hA⟩
          refine TG.ap ?_ hS hA
          unfold m7_7 at hr822
          refine sq (sq (rg (m1 rfl (m1 rfl (lnL U25 rfl rfl (ltI rfl rfl rfl (on ?_)))))))
          refine ci rfl (fun hc828 => ?_) (fun hc828 => ?_)
          ·have hr829 := if_p hc828 hr822
           refine sk (sq (bk ?_))
           obtain ⟨t893, hx894, hr895⟩ := bd_some hr829
           refine jn (fun a w => St M W H [K79, K5, H] [] w ∧ Has [] 180 a [(1, .slice ad_errata errata.length cap_errata), (6, .slice ad80 r76.length cap81), (10, .int .i64 (s600 : Int)), (11, .bool t893), (13, .int .i64 (s821.1 : Int))]) ?_ ?_
           ·rcases Bool.eq_false_or_eq_true (s821.2) with hb896 | hb896
            ·have hr897 := if_p hb896 hx894
             refine drG 30 mixed (by kernel_rfl) rfl (dt rfl (m1 rfl fin1) (dt rfl (m1 rfl fin1) (dt rfl (gF rfl rfl (hb896) rfl fin1) (dt rfl (gF rfl rfl (hb896) rfl fin1) (dt rfl (gF rfl rfl (hb896) rfl fin1) (dt rfl (gF rfl rfl (hb896) rfl fin1) (dt rfl (gF rfl rfl (hb896) rfl fin1) (dt rfl (gF rfl rfl (hb896) rfl fin1) (dt rfl (gF rfl rfl (hb896) rfl fin1) (dt rfl (gU rfl rfl rfl fin1) (dt rfl (gU rfl rfl rfl fin1) ?_)))))))))))
             refine dt rfl (gU rfl rfl rfl fin1) (dt rfl (gU rfl rfl rfl fin1) (dt rfl (gU rfl rfl rfl fin1) (dt rfl (gU rfl rfl rfl fin1) (dt rfl (gU rfl rfl rfl fin1) (dt rfl (gU rfl rfl rfl fin1) (dt rfl (gU rfl rfl rfl fin1) (dt rfl (gU rfl rfl rfl fin1) (dt rfl (gU rfl rfl rfl fin1) (dt rfl (gF rfl rfl (hb896) rfl fin1) (dt rfl (gF rfl rfl (hb896) rfl fin1) (dt rfl (gU rfl rfl rfl fin1) ?_)))))))))))
             refine dt rfl (gU rfl rfl rfl fin1) (dt rfl (gU rfl rfl rfl fin1) (dt rfl (gU rfl rfl rfl fin1) (dt rfl (gU rfl rfl rfl fin1) (dt rfl (gU rfl rfl rfl fin1) (dt rfl (gU rfl rfl rfl fin1) (dt rfl (gU rfl rfl rfl fin1) (DF.nil fun K898 hF => (gU rfl rfl rfl (gF rfl rfl (hb896) rfl (pT rfl rfl (hb896) rfl (a1 rfl ?_)))))))))))
             refine on ?_
             cases hr897
             intro a w hS hA
             exact ⟨hS.selH [1, 2, 3] rfl, hA.cut ⟨rfl, rfl, rfl, rfl, rfl, tv⟩⟩
            ·have hr899 := if_f hb896 hx894
             obtain ⟨x900, hx901, hr902⟩ := bd_some hr899
             obtain ⟨p903, rfl⟩ := h_errata.adr hx901
             obtain ⟨cs904, hcs905, hq906, hr907⟩ := h_errata.at hx901
             obtain rfl := hr907
             by_cases hb908 : x900.kind = 2
             ·have hr909 := if_p hb908 hr902
              obtain ⟨x910, hx911, hr912⟩ := bd_some hr909
              obtain ⟨cs913, hcs914, hq915, hr916⟩ := h_errata.at hx911
              obtain rfl := hr916
              by_cases hb917 : x900.new_ = x910.anchor
              ·have hr918 := if_p hb917 hr912
               refine drG 30 mixed (by kernel_rfl) rfl (dt rfl (m1 rfl fin1) (dt rfl (m1 rfl fin1) (dt rfl (gN rfl rfl (hb896) (m1 rfl fin1)) (dt rfl (gN rfl rfl (hb896) (m1 rfl fin1)) (dt rfl (gN rfl rfl (hb896) (iaP U25 Z97 rfl rfl rfl rfl (lt_of hx901) fin1)) (dt rfl (gN rfl rfl (hb896) (fb 2 U97 rfl rfl rfl rfl Z5 fin1)) (dt rfl (gN rfl rfl (hb896) (ld G5 rfl rfl (((sS 3 rfl hq906).drop 2).take 1) rfl fin1)) (dt rfl (gN rfl rfl (hb896) (eqI rfl rfl rfl fin1)) (dt rfl (gN rfl rfl (hb896) (m1 rfl fin1)) (dt rfl (gt hb908 rfl (m1 rfl fin1)) (dt rfl (gt hb908 rfl (m1 rfl fin1)) ?_)))))))))))
               refine dt rfl (gt hb908 rfl (iaP U25 Z97 rfl rfl rfl rfl (lt_of hx901) fin1)) (dt rfl (gt hb908 rfl (fb 5 U97 rfl rfl rfl rfl Z3 fin1)) (dt rfl (gt hb908 rfl (ld G3 rfl rfl ((sS 3 rfl hq906).drop 5) rfl fin1)) (dt rfl (gt hb908 rfl (m1 rfl fin1)) (dt rfl (gt hb908 rfl (m1 rfl fin1)) (dt rfl (gt hb908 rfl (iaP U25 Z97 rfl rfl rfl rfl (lt_of hx911) fin1)) (dt rfl (gt hb908 rfl (fb 3 U97 rfl rfl rfl rfl Z3 fin1)) (dt rfl (gt hb908 rfl (ld G3 rfl rfl (((sS 3 rfl hq915).drop 3).take 1) rfl fin1)) (dt rfl (gt hb908 rfl (eqI rfl rfl rfl fin1)) (dt rfl (gN rfl rfl (hb896) (pt hb908 rfl rfl fin1)) (dt rfl (gN rfl rfl (hb896) (m1 rfl fin1)) (dt rfl (gt hb917 rfl (m1 rfl fin1)) ?_)))))))))))
               refine dt rfl (gt hb917 rfl (m1 rfl fin1)) (dt rfl (gt hb917 rfl (iaP U25 Z97 rfl rfl rfl rfl (lt_of hx901) fin1)) (dt rfl (gt hb917 rfl (ldA G97 Z97 rfl rfl (sS 3 rfl hq906) rfl fin1)) (dt rfl (gt hb917 rfl (m1 rfl fin1)) (dt rfl (gt hb917 rfl (m1 rfl fin1)) (dt rfl (gt hb917 rfl (iaP U25 Z97 rfl rfl rfl rfl (lt_of hx911) fin1)) (dt rfl (gt hb917 rfl (ldA G97 Z97 rfl rfl (sS 3 rfl hq915) rfl fin1)) (DF.nil fun K919 hF => (gt hb917 rfl ?_))))))))
               obtain ⟨r920, hx921, hr922⟩ := bd_some hr918
               refine clS C30 rfl rfl rfl rfl (fun w H hH le => w30 x900 rfl x910 rfl hx921) (gN rfl rfl (hb896) (pt hb917 rfl rfl (pF rfl rfl (hb896) rfl (a1 rfl (on ?_)))))
               cases hr922
               intro a w hS hA
               exact ⟨hS.selH [1, 2, 3] rfl, hA.cut ⟨rfl, rfl, rfl, rfl, rfl, tv⟩⟩
              ·have hr923 := if_n hb917 hr912
               refine drG 30 mixed (by kernel_rfl) rfl (dt rfl (m1 rfl fin1) (dt rfl (m1 rfl fin1) (dt rfl (gN rfl rfl (hb896) (m1 rfl fin1)) (dt rfl (gN rfl rfl (hb896) (m1 rfl fin1)) (dt rfl (gN rfl rfl (hb896) (iaP U25 Z97 rfl rfl rfl rfl (lt_of hx901) fin1)) (dt rfl (gN rfl rfl (hb896) (fb 2 U97 rfl rfl rfl rfl Z5 fin1)) (dt rfl (gN rfl rfl (hb896) (ld G5 rfl rfl (((sS 3 rfl hq906).drop 2).take 1) rfl fin1)) (dt rfl (gN rfl rfl (hb896) (eqI rfl rfl rfl fin1)) (dt rfl (gN rfl rfl (hb896) (m1 rfl fin1)) (dt rfl (gt hb908 rfl (m1 rfl fin1)) (dt rfl (gt hb908 rfl (m1 rfl fin1)) ?_)))))))))))
               refine dt rfl (gt hb908 rfl (iaP U25 Z97 rfl rfl rfl rfl (lt_of hx901) fin1)) (dt rfl (gt hb908 rfl (fb 5 U97 rfl rfl rfl rfl Z3 fin1)) (dt rfl (gt hb908 rfl (ld G3 rfl rfl ((sS 3 rfl hq906).drop 5) rfl fin1)) (dt rfl (gt hb908 rfl (m1 rfl fin1)) (dt rfl (gt hb908 rfl (m1 rfl fin1)) (dt rfl (gt hb908 rfl (iaP U25 Z97 rfl rfl rfl rfl (lt_of hx911) fin1)) (dt rfl (gt hb908 rfl (fb 3 U97 rfl rfl rfl rfl Z3 fin1)) (dt rfl (gt hb908 rfl (ld G3 rfl rfl (((sS 3 rfl hq915).drop 3).take 1) rfl fin1)) (dt rfl (gt hb908 rfl (eqI rfl rfl rfl fin1)) (dt rfl (gN rfl rfl (hb896) (pt hb908 rfl rfl fin1)) (dt rfl (gN rfl rfl (hb896) (m1 rfl fin1)) (dt rfl (gf hb917 rfl fin1) ?_)))))))))))
               refine dt rfl (gf hb917 rfl fin1) (dt rfl (gf hb917 rfl fin1) (dt rfl (gf hb917 rfl fin1) (dt rfl (gf hb917 rfl fin1) (dt rfl (gf hb917 rfl fin1) (dt rfl (gf hb917 rfl fin1) (dt rfl (gf hb917 rfl fin1) (DF.nil fun K924 hF => (gf hb917 rfl (gN rfl rfl (hb896) (pf hb917 rfl rfl (pF rfl rfl (hb896) rfl ?_)))))))))))
               refine a1 rfl (on ?_)
               cases hr923
               intro a w hS hA
               exact ⟨hS.selH [1, 2, 3] rfl, hA.cut ⟨rfl, rfl, rfl, rfl, rfl, tv⟩⟩
             ·have hr925 := if_n hb908 hr902
              refine drG 30 mixed (by kernel_rfl) rfl (dt rfl (m1 rfl fin1) (dt rfl (m1 rfl fin1) (dt rfl (gN rfl rfl (hb896) (m1 rfl fin1)) (dt rfl (gN rfl rfl (hb896) (m1 rfl fin1)) (dt rfl (gN rfl rfl (hb896) (iaP U25 Z97 rfl rfl rfl rfl (lt_of hx901) fin1)) (dt rfl (gN rfl rfl (hb896) (fb 2 U97 rfl rfl rfl rfl Z5 fin1)) (dt rfl (gN rfl rfl (hb896) (ld G5 rfl rfl (((sS 3 rfl hq906).drop 2).take 1) rfl fin1)) (dt rfl (gN rfl rfl (hb896) (eqI rfl rfl rfl fin1)) (dt rfl (gN rfl rfl (hb896) (m1 rfl fin1)) (dt rfl (gf hb908 rfl fin1) (dt rfl (gf hb908 rfl fin1) ?_)))))))))))
              refine dt rfl (gf hb908 rfl fin1) (dt rfl (gf hb908 rfl fin1) (dt rfl (gf hb908 rfl fin1) (dt rfl (gf hb908 rfl fin1) (dt rfl (gf hb908 rfl fin1) (dt rfl (gf hb908 rfl fin1) (dt rfl (gf hb908 rfl fin1) (dt rfl (gf hb908 rfl fin1) (dt rfl (gf hb908 rfl fin1) (dt rfl (gN rfl rfl (hb896) (pf hb908 rfl rfl fin1)) (dt rfl (gN rfl rfl (hb896) (m1 rfl fin1)) (dt rfl (gF rfl rfl rfl rfl fin1) ?_)))))))))))
              refine dt rfl (gF rfl rfl rfl rfl fin1) (dt rfl (gF rfl rfl rfl rfl fin1) (dt rfl (gF rfl rfl rfl rfl fin1) (dt rfl (gF rfl rfl rfl rfl fin1) (dt rfl (gF rfl rfl rfl rfl fin1) (dt rfl (gF rfl rfl rfl rfl fin1) (dt rfl (gF rfl rfl rfl rfl fin1) (DF.nil fun K926 hF => (gF rfl rfl rfl rfl (gN rfl rfl (hb896) (pF rfl rfl rfl rfl (pF rfl rfl (hb896) rfl ?_)))))))))))
              refine a1 rfl (on ?_)
              cases hr925
              intro a w hS hA
              exact ⟨hS.selH [1, 2, 3] rfl, hA.cut ⟨rfl, rfl, rfl, rfl, rfl, tv⟩⟩
           ·rintro a w ⟨hS, hA⟩
            refine TG.ap ?_ hS hA
            refine rg (m1 rfl (adI rfl rfl rfl (by omega) (a1 rfl (on ?_))))
            cases hr895
            intro a w hS hA
            exact ⟨_, hz823, hS, hA.cut ⟨rfl, rfl, rfl, rfl, rfl, tv⟩⟩
          ·have hr927 := if_n hc828 hr822
           refine xt rfl ?_
           cases hr927
           obtain rfl := Fin.out hz823
           exact cu ⟨rfl, rfl, rfl, rfl, tv⟩
        ·rintro a w ⟨hS, hA⟩
         refine TG.ap ?_ hS hA
         refine sq (rg (m1 rfl (nt rfl rfl (on ?_))))
         refine cb rfl (fun hc931 => ?_) (fun hc931 => ?_)
         ·replace hc931 := nbt hc931
          have hr932 := if_f hc931 hr820
          refine sq (rg (a1 rfl (on (rt_ ?_))))
          cases hr932
          obtain rfl := Fin.out hz602
          cases hr598
          intro a w hS hA
          refine ret1 hA rfl rfl ?_
          exact ⟨rfl, hS.ext⟩
         ·replace hc931 := nbf hc931
          have hr933 := if_p hc931 hr820
          refine sk (rg (m1 rfl (adI rfl rfl rfl (by omega) (a1 rfl (on ?_)))))
          cases hr933
          intro a w hS hA
          exact ⟨_, hz602, hS, hA.cut ⟨rfl, rfl, rfl, tv⟩⟩
      ·have hr934 := if_n hc607 hr601
       refine xt rfl ?_
       cases hr934
       obtain rfl := Fin.out hz602
       intro a w hS hA
       exact ⟨_, rfl, hS, hA.cut tv⟩
    ·rintro a w ⟨t599, rfl, hS, hA⟩
     refine TG.ap ?_ hS hA
     refine sq (rg (a1 rfl (on (rt_ ?_))))
     cases hr598
     intro a w hS hA
     refine ret1 hA rfl rfl ?_
     exact ⟨rfl, hS.ext⟩

theorem w110 {M : Prop} {W : World} {H : Hp} (hH : H.le (hp W)) {cs_x_0 : List Value} (x_0 : Heading) (h_x_0 : (RHeading) H cs_x_0 x_0) {q_f0_ : Addr} {fv_f0_ : Value} {f0_ : Heading → Option Bool} (hc_f0_ : CellsAt H q_f0_ [fv_f0_]) (h_f0_ : FnV M Tryz.prog H fv_f0_ (SF1 (Vr RHeading) Value.bool f0_)) {r : Bool} (hr : m110 x_0 f0_ = some r) : Calls Tryz.prog 110 [.agg cs_x_0.toArray, .pointer (some q_f0_)].toArray W (RetS M W (.bool r)) := by
 have hh_x_0 := h_x_0
 obtain ⟨ad1, cap2, ad4, cap5, ad7, cap8, rfl, hl3, hl6, hl9⟩ := h_x_0
 have := hl3.len
 have := hl6.len
 have := hl9.len
 have hh_f0_ := h_f0_
 obtain ⟨f_f0_, fi_f0_, ca_f0_, rfl, _, _⟩ := h_f0_
 unfold m110 at hr
 refine enterG (M := M) Tryz.func110 rfl Tryz.ntmps110 rfl hH ?_
 refine sq (rg (bI (cs := [.string (bs x_0.name), .slice ad1 x_0.variants.length cap2, .slice ad4 x_0.also.length cap5, .slice ad7 x_0.places.length cap8]) rfl rfl rfl fun q10 K11 hK12 => (a1 rfl (on (sq (rg (ld G192 rfl rfl (sS 1 rfl hc_f0_) rfl (ldA G86 Z86 rfl rfl (sS 0 rfl hK12) rfl ?_))))))))
 obtain ⟨r13, hx14, hr15⟩ := bd_some hr
 refine clV (v := .bool r13) hh_f0_ 1 rfl rfl rfl rfl (fun H le => ⟨_, x_0, r13, rfl, ⟨_, rfl, (RHeading.mono _ _ _ _ (le.at 1 rfl) hh_x_0)⟩, hx14, rfl⟩) (nt rfl rfl (a1 rfl (on (rt_ ?_))))
 cases hr15
 intro a w hS hA
 refine ret1 hA rfl rfl ?_
 exact ⟨rfl, hS.ext⟩

theorem w147 {M : Prop} {W : World} {H : Hp} (hH : H.le (hp W)) {ad_s_0 : Option Addr} {cap_s_0 : Nat} {s_0 : List Heading} (h_s_0 : Sl (RHeading) 4 H ad_s_0 cap_s_0 s_0) {fv_f_1 : Value} {f_1 : Heading → Option Bool} (h_f_1 : FnV M Tryz.prog H fv_f_1 (SF1 (Vr RHeading) Value.bool f_1)) {r : Int} (hr : m147 s_0 f_1 = some r) : Calls Tryz.prog 147 [.slice ad_s_0 s_0.length cap_s_0, fv_f_1].toArray W (RetS M W (.int .i64 r)) := by
 have := h_s_0.len
 have hh_f_1 := h_f_1
 obtain ⟨f_f_1, fi_f_1, ca_f_1, rfl, _, _⟩ := h_f_1
 unfold m147 at hr
 refine enterG (M := M) Tryz.func147 rfl Tryz.ntmps147 rfl hH ?_
 refine sq (rg (a1 rfl (on (sq (sq (rg (m1 rfl (lnL U79 rfl rfl (m1 rfl (on ?_))))))))))
 obtain ⟨e29, hl30, hr31⟩ := bd_some hr
 refine jn (fun a w => ∃ t32, e29 = .inl t32 ∧ St M W H [H] [] w ∧ Has [] 19 a []) ?_ ?_
 ·refine bk ?_
  refine lp hl30 (fun s33 a w => St M W H [H] [] w ∧ Has [] 19 a [(0, .slice ad_s_0 s_0.length cap_s_0), (1, .func (.func f_f_1) fi_f_1.toArray ca_f_1.toArray), (7, .int .i64 (s_0.length : Int)), (8, .int .i64 (s33 : Int))]) ?_ ?_
  ·exact cu ⟨rfl, rfl, rfl, rfl, tv⟩
  ·rintro j s33 y36 hr34 hz35 a w ⟨hS, hA⟩
   refine TG.ap ?_ hS hA
   unfold m147_1 at hr34
   refine sq (rg (ltI rfl rfl rfl (on (sq ?_))))
   refine ci rfl (fun hc40 => ?_) (fun hc40 => ?_)
   ·have hr41 := if_p hc40 hr34
    refine sk (sq (bk (sq (rg (m1 rfl (a1 rfl (on (sq (rg (m1 rfl (m1 rfl ?_)))))))))))
    refine m1 rfl ?_
    obtain ⟨x66, hx67, hr68⟩ := bd_some hr41
    obtain ⟨p69, rfl⟩ := h_s_0.adr hx67
    obtain ⟨cs70, hcs71, hq72, hr73⟩ := h_s_0.at hx67
    have hr74 := hr73
    obtain ⟨ad75, cap76, ad78, cap79, ad81, cap82, rfl, hl77, hl80, hl83⟩ := hr73
    have := hl77.len
    have := hl80.len
    have := hl83.len
    refine iaP U79 Z86 rfl rfl rfl rfl (lt_of hx67) (ldA G86 Z86 rfl rfl (sS 0 rfl hq72) rfl ?_)
    obtain ⟨r84, hx85, hr86⟩ := bd_some hr68
    refine clV (v := .bool r84) hh_f_1 0 rfl rfl rfl rfl (fun H le => ⟨_, x66, r84, rfl, ⟨_, rfl, (RHeading.mono _ _ _ _ (le.at 0 rfl) hr74)⟩, hx85, rfl⟩) (on ?_)
    refine cb rfl (fun hc90 => ?_) (fun hc90 => ?_)
    ·have hr91 := if_p hc90 hr86
     refine sq (rg (m1 rfl (a1 rfl (on (rt_ ?_)))))
     cases hr91
     obtain rfl := Fin.out hz35
     cases hr31
     intro a w hS hA
     refine ret1 hA rfl rfl ?_
     exact ⟨rfl, hS.ext⟩
    ·have hr92 := if_f hc90 hr86
     refine sk (rg (adI rfl rfl rfl (by omega) (m1 rfl (on ?_))))
     cases hr92
     intro a w hS hA
     exact ⟨_, hz35, hS, hA.cut ⟨rfl, rfl, rfl, rfl, tv⟩⟩
   ·have hr93 := if_n hc40 hr34
    refine xt rfl ?_
    cases hr93
    obtain rfl := Fin.out hz35
    intro a w hS hA
    exact ⟨_, rfl, hS, hA.cut tv⟩
 ·rintro a w ⟨t32, rfl, hS, hA⟩
  refine TG.ap ?_ hS hA
  refine sq (rg (a1 rfl (on (rt_ ?_))))
  cases hr31
  intro a w hS hA
  refine ret1 hA rfl rfl ?_
  exact ⟨rfl, hS.ext⟩

theorem w109 {M : Prop} {W : World} {H : Hp} (hH : H.le (hp W)) {ad_s_0 : Option Addr} {cap_s_0 : Nat} {s_0 : List Heading} (h_s_0 : Sl (RHeading) 4 H ad_s_0 cap_s_0 s_0) {fv_f_1 : Value} {f_1 : Heading → Option Bool} (h_f_1 : FnV M Tryz.prog H fv_f_1 (SF1 (Vr RHeading) Value.bool f_1)) {r : Bool} (hr : m109 s_0 f_1 = some r) : Calls Tryz.prog 109 [.slice ad_s_0 s_0.length cap_s_0, fv_f_1].toArray W (RetS M W (.bool r)) := by
 have := h_s_0.len
 have hh_f_1 := h_f_1
 obtain ⟨f_f_1, fi_f_1, ca_f_1, rfl, _, _⟩ := h_f_1
 unfold m109 at hr
 refine enterG (M := M) Tryz.func109 rfl Tryz.ntmps109 rfl hH ?_
 refine sq (rg (a1 rfl (on (sq (rg (m1 rfl (m1 rfl ?_)))))))
 obtain ⟨r1, hx2, hr3⟩ := bd_some hr
 refine clS C147 rfl rfl rfl rfl (fun w H hH le => w147 hH (h_s_0.mono (RHeading.mono) (le.at 0 rfl)) (f_1 := f_1) (hh_f_1.mono (le.at 0 rfl)) hx2) (geI rfl rfl rfl (a1 rfl (on (rt_ ?_))))
 cases hr3
 intro a w hS hA
 refine ret1 hA rfl rfl ?_
 exact ⟨rfl, hS.ext⟩

theorem w71 {M : Prop} {W : World} {H : Hp} (hH : H.le (hp W)) {ad_l_0 : Option Addr} {cap_l_0 : Nat} {l_0 : List Heading} (h_l_0 : Sl (RHeading) 4 H ad_l_0 cap_l_0 l_0) {fv_right : Value} {right : Heading → Option Bool} (h_right : FnV M Tryz.prog H fv_right (SF1 (Vr RHeading) Value.bool right)) {r : Bool} (hr : m71 l_0 right = some r) : Calls Tryz.prog 71 [.slice ad_l_0 l_0.length cap_l_0, fv_right].toArray W (RetS M W (.bool r)) := by
 have := h_l_0.len
 have hh_right := h_right
 obtain ⟨f_right, fi_right, ca_right, rfl, _, _⟩ := h_right
 unfold m71 at hr
 refine enterG (M := M) Tryz.func71 rfl Tryz.ntmps71 rfl hH ?_
 refine sq (rg (bI (cs := [.func (.func f_right) fi_right.toArray ca_right.toArray]) rfl rfl rfl fun q1 K2 hK3 => (a1 rfl (on (sq (rg (m1 rfl (fn rfl rfl rfl ?_))))))))
 obtain ⟨r5, hx6, hr7⟩ := bd_some hr
 refine clS (v := .bool r5) C109 rfl rfl rfl rfl (fun w H hH le => by
   have hf4 : FnV M Tryz.prog H (.func (.func 110) [].toArray [.pointer (some q1)].toArray) (SF1 (Vr RHeading) Value.bool (fun x0_ => m110 x0_ right)) := ⟨110, [], [.pointer (some q1)], rfl, C110, fun w_ K_ args_ v_ hK hw hs => by obtain ⟨u0_, x0_, r_, rfl, h0_, hx, rfl⟩ := hs; obtain ⟨_, rfl, h0_⟩ := h0_; exact w110 (H := K_) hw  x0_ h0_ (f0_ := right) (hK3.mono ((le.at 0 rfl).trans hK)) (hh_right.mono ((le.at 1 rfl).trans hK)) hx⟩
   exact w109 hH (h_l_0.mono (RHeading.mono) (le.at 1 rfl)) (f_1 := (fun x0_ => m110 x0_ right)) hf4 hx6) ?_
 refine nt rfl rfl (a1 rfl (on (rt_ ?_)))
 cases hr7
 intro a w hS hA
 refine ret1 hA rfl rfl ?_
 exact ⟨rfl, hS.ext⟩

theorem w120 {M : Prop} {W : World} {H : Hp} (hH : H.le (hp W)) (x_0 : Bytes) {q_f0_ : Addr} {fv_f0_ : Value} {f0_ : Bytes → Option Bool} (hc_f0_ : CellsAt H q_f0_ [fv_f0_]) (h_f0_ : FnV M Tryz.prog H fv_f0_ (SF1 Vs Value.bool f0_)) {r : Bool} (hr : m120 x_0 f0_ = some r) : Calls Tryz.prog 120 [.string (bs x_0), .pointer (some q_f0_)].toArray W (RetS M W (.bool r)) := by
 have hh_f0_ := h_f0_
 obtain ⟨f_f0_, fi_f0_, ca_f0_, rfl, _, _⟩ := h_f0_
 unfold m120 at hr
 refine enterG (M := M) Tryz.func120 rfl Tryz.ntmps120 rfl hH ?_
 refine sq (rg (a1 rfl (on (sq (rg (ld G100 rfl rfl (sS 0 rfl hc_f0_) rfl (m1 rfl ?_)))))))
 obtain ⟨r1, hx2, hr3⟩ := bd_some hr
 refine clV (v := .bool r1) hh_f0_ 0 rfl rfl rfl rfl (fun H le => ⟨_, x_0, r1, rfl, rfl, hx2, rfl⟩) (nt rfl rfl (a1 rfl (on (rt_ ?_))))
 cases hr3
 intro a w hS hA
 refine ret1 hA rfl rfl ?_
 exact ⟨rfl, hS.ext⟩

theorem w154 {M : Prop} {W : World} {H : Hp} (hH : H.le (hp W)) {ad_s_0 : Option Addr} {cap_s_0 : Nat} {s_0 : List Bytes} (h_s_0 : Sl (Flat encS) 1 H ad_s_0 cap_s_0 s_0) {fv_f_1 : Value} {f_1 : Bytes → Option Bool} (h_f_1 : FnV M Tryz.prog H fv_f_1 (SF1 Vs Value.bool f_1)) {r : Int} (hr : m154 s_0 f_1 = some r) : Calls Tryz.prog 154 [.slice ad_s_0 s_0.length cap_s_0, fv_f_1].toArray W (RetS M W (.int .i64 r)) := by
 have := h_s_0.len
 have hh_f_1 := h_f_1
 obtain ⟨f_f_1, fi_f_1, ca_f_1, rfl, _, _⟩ := h_f_1
 unfold m154 at hr
 refine enterG (M := M) Tryz.func154 rfl Tryz.ntmps154 rfl hH ?_
 refine sq (rg (a1 rfl (on (sq (sq (rg (m1 rfl (lnL U77 rfl rfl (m1 rfl (on ?_))))))))))
 obtain ⟨e19, hl20, hr21⟩ := bd_some hr
 refine jn (fun a w => ∃ t22, e19 = .inl t22 ∧ St M W H [H] [] w ∧ Has [] 19 a []) ?_ ?_
 ·refine bk ?_
  refine lp hl20 (fun s23 a w => St M W H [H] [] w ∧ Has [] 19 a [(0, .slice ad_s_0 s_0.length cap_s_0), (1, .func (.func f_f_1) fi_f_1.toArray ca_f_1.toArray), (7, .int .i64 (s_0.length : Int)), (8, .int .i64 (s23 : Int))]) ?_ ?_
  ·exact cu ⟨rfl, rfl, rfl, rfl, tv⟩
  ·rintro j s23 y26 hr24 hz25 a w ⟨hS, hA⟩
   refine TG.ap ?_ hS hA
   unfold m154_1 at hr24
   refine sq (rg (ltI rfl rfl rfl (on (sq ?_))))
   refine ci rfl (fun hc30 => ?_) (fun hc30 => ?_)
   ·have hr31 := if_p hc30 hr24
    refine sk (sq (bk (sq (rg (m1 rfl (a1 rfl (on (sq (rg (m1 rfl (m1 rfl ?_)))))))))))
    refine m1 rfl ?_
    obtain ⟨x46, hx47, hr48⟩ := bd_some hr31
    obtain ⟨p49, rfl⟩ := h_s_0.adr hx47
    obtain ⟨cs50, hcs51, hq52, hr53⟩ := h_s_0.at hx47
    obtain rfl := hr53
    refine iaP U77 Z9 rfl rfl rfl rfl (lt_of hx47) (ld G9 rfl rfl (sS 0 rfl hq52) rfl ?_)
    obtain ⟨r54, hx55, hr56⟩ := bd_some hr48
    refine clV (v := .bool r54) hh_f_1 0 rfl rfl rfl rfl (fun H le => ⟨_, x46, r54, rfl, rfl, hx55, rfl⟩) (on ?_)
    refine cb rfl (fun hc60 => ?_) (fun hc60 => ?_)
    ·have hr61 := if_p hc60 hr56
     refine sq (rg (m1 rfl (a1 rfl (on (rt_ ?_)))))
     cases hr61
     obtain rfl := Fin.out hz25
     cases hr21
     intro a w hS hA
     refine ret1 hA rfl rfl ?_
     exact ⟨rfl, hS.ext⟩
    ·have hr62 := if_f hc60 hr56
     refine sk (rg (adI rfl rfl rfl (by omega) (m1 rfl (on ?_))))
     cases hr62
     intro a w hS hA
     exact ⟨_, hz25, hS, hA.cut ⟨rfl, rfl, rfl, rfl, tv⟩⟩
   ·have hr63 := if_n hc30 hr24
    refine xt rfl ?_
    cases hr63
    obtain rfl := Fin.out hz25
    intro a w hS hA
    exact ⟨_, rfl, hS, hA.cut tv⟩
 ·rintro a w ⟨t22, rfl, hS, hA⟩
  refine TG.ap ?_ hS hA
  refine sq (rg (a1 rfl (on (rt_ ?_))))
  cases hr21
  intro a w hS hA
  refine ret1 hA rfl rfl ?_
  exact ⟨rfl, hS.ext⟩

theorem w119 {M : Prop} {W : World} {H : Hp} (hH : H.le (hp W)) {ad_s_0 : Option Addr} {cap_s_0 : Nat} {s_0 : List Bytes} (h_s_0 : Sl (Flat encS) 1 H ad_s_0 cap_s_0 s_0) {fv_f_1 : Value} {f_1 : Bytes → Option Bool} (h_f_1 : FnV M Tryz.prog H fv_f_1 (SF1 Vs Value.bool f_1)) {r : Bool} (hr : m119 s_0 f_1 = some r) : Calls Tryz.prog 119 [.slice ad_s_0 s_0.length cap_s_0, fv_f_1].toArray W (RetS M W (.bool r)) := by
 have := h_s_0.len
 have hh_f_1 := h_f_1
 obtain ⟨f_f_1, fi_f_1, ca_f_1, rfl, _, _⟩ := h_f_1
 unfold m119 at hr
 refine enterG (M := M) Tryz.func119 rfl Tryz.ntmps119 rfl hH ?_
 refine sq (rg (a1 rfl (on (sq (rg (m1 rfl (m1 rfl ?_)))))))
 obtain ⟨r1, hx2, hr3⟩ := bd_some hr
 refine clS C154 rfl rfl rfl rfl (fun w H hH le => w154 hH (h_s_0.mono (Flat.mono _) (le.at 0 rfl)) (f_1 := f_1) (hh_f_1.mono (le.at 0 rfl)) hx2) (geI rfl rfl rfl (a1 rfl (on (rt_ ?_))))
 cases hr3
 intro a w hS hA
 refine ret1 hA rfl rfl ?_
 exact ⟨rfl, hS.ext⟩

theorem w75 {M : Prop} {W : World} {H : Hp} (hH : H.le (hp W)) {ad_l_0 : Option Addr} {cap_l_0 : Nat} {l_0 : List Bytes} (h_l_0 : Sl (Flat encS) 1 H ad_l_0 cap_l_0 l_0) {fv_right : Value} {right : Bytes → Option Bool} (h_right : FnV M Tryz.prog H fv_right (SF1 Vs Value.bool right)) {r : Bool} (hr : m75 l_0 right = some r) : Calls Tryz.prog 75 [.slice ad_l_0 l_0.length cap_l_0, fv_right].toArray W (RetS M W (.bool r)) := by
 have := h_l_0.len
 have hh_right := h_right
 obtain ⟨f_right, fi_right, ca_right, rfl, _, _⟩ := h_right
 unfold m75 at hr
 refine enterG (M := M) Tryz.func75 rfl Tryz.ntmps75 rfl hH ?_
 refine sq (rg (bI (cs := [.func (.func f_right) fi_right.toArray ca_right.toArray]) rfl rfl rfl fun q1 K2 hK3 => (a1 rfl (on (sq (rg (m1 rfl (fn rfl rfl rfl ?_))))))))
 obtain ⟨r5, hx6, hr7⟩ := bd_some hr
 refine clS (v := .bool r5) C119 rfl rfl rfl rfl (fun w H hH le => by
   have hf4 : FnV M Tryz.prog H (.func (.func 120) [].toArray [.pointer (some q1)].toArray) (SF1 Vs Value.bool (fun x0_ => m120 x0_ right)) := ⟨120, [], [.pointer (some q1)], rfl, C120, fun w_ K_ args_ v_ hK hw hs => by obtain ⟨u0_, x0_, r_, rfl, h0_, hx, rfl⟩ := hs; cases h0_; exact w120 (H := K_) hw  x0_ (f0_ := right) (hK3.mono ((le.at 0 rfl).trans hK)) (hh_right.mono ((le.at 1 rfl).trans hK)) hx⟩
   exact w119 hH (h_l_0.mono (Flat.mono _) (le.at 1 rfl)) (f_1 := (fun x0_ => m120 x0_ right)) hf4 hx6) ?_
 refine nt rfl rfl (a1 rfl (on (rt_ ?_)))
 cases hr7
 intro a w hS hA
 refine ret1 hA rfl rfl ?_
 exact ⟨rfl, hS.ext⟩

theorem w148 {M : Prop} {W : World} (b_0 : Int) {r : Bool} (hr : m148 b_0 = some r) : Calls Tryz.prog 148 [.int .u8 b_0].toArray W (RetS M W (.bool r)) := by
 unfold m148 at hr
 refine enterG (M := M) Tryz.func148 rfl Tryz.ntmps148 rfl (Hp.le.refl _) ?_
 refine sq (rg (a1 rfl (on (sq ?_))))
 obtain ⟨t10, hx11, hr12⟩ := bd_some hr
 refine jn (fun a w => St M W (hp W) [(hp W)] [] w ∧ Has [] 15 a [(2, .bool t10)]) ?_ ?_
 ·refine rg (m1 rfl (leI rfl rfl rfl (m1 rfl ?_)))
  by_cases hb13 : (32 : Int) ≤ b_0
  ·have hr14 := if_p hb13 hx11
   refine gt hb13 rfl (m1 rfl (gt hb13 rfl (leI rfl rfl rfl (pt hb13 rfl rfl (m1 rfl ?_)))))
   by_cases hb15 : b_0 ≤ 126
   ·have hr16 := if_p hb15 hr14
    refine gt hb15 rfl (m1 rfl (gt hb15 rfl (cvI U5 U21 rfl rfl (wr_i32 (by omega)) (gt hb15 rfl ?_))))
    obtain ⟨r17, hx18, hr19⟩ := bd_some hr16
    refine clS C149 rfl rfl rfl rfl (fun w H hH le => w149 [44, 58, 59, 61] b_0 hx18) (gt hb15 rfl (nt rfl rfl (pt hb15 rfl rfl (a1 rfl (on ?_)))))
    cases hr19
    exact cu ⟨rfl, tv⟩
   ·have hr20 := if_n hb15 hr14
    refine gf hb15 rfl (gf hb15 rfl (gf hb15 rfl (gf hb15 rfl (pf hb15 rfl rfl (a1 rfl (on ?_))))))
    cases hr20
    exact cu ⟨rfl, tv⟩
  ·have hr21 := if_n hb13 hx11
   refine gf hb13 rfl (gf hb13 rfl (pf hb13 rfl rfl (m1 rfl (gF rfl rfl rfl rfl (gF rfl rfl rfl rfl (gF rfl rfl rfl rfl (gF rfl rfl rfl rfl (pF rfl rfl rfl rfl (a1 rfl (on ?_))))))))))
   cases hr21
   exact cu ⟨rfl, tv⟩
 ·rintro a w ⟨hS, hA⟩
  refine TG.ap ?_ hS hA
  refine rt_ ?_
  cases hr12
  intro a w hS hA
  refine ret1 hA rfl rfl ?_
  exact ⟨rfl, hS.ext⟩

theorem w48 {M : Prop} {W : World} (n_0 : Int) (low : Int) (high : Int) {r : Bool} (hr : m48 n_0 low high = some r) : Calls Tryz.prog 48 [.int .i64 n_0, .int .i64 low, .int .i64 high].toArray W (RetS M W (.bool r)) := by
 unfold m48 at hr
 refine enterG (M := M) Tryz.func48 rfl Tryz.ntmps48 rfl (Hp.le.refl _) ?_
 refine sq (rg (a1 rfl (on (sq ?_))))
 obtain ⟨t4, hx5, hr6⟩ := bd_some hr
 refine jn (fun a w => St M W (hp W) [(hp W)] [] w ∧ Has [] 15 a [(6, .bool t4)]) ?_ ?_
 ·refine rg (m1 rfl (m1 rfl (leI rfl rfl rfl (m1 rfl ?_))))
  by_cases hb7 : low ≤ n_0
  ·have hr8 := if_p hb7 hx5
   refine gt hb7 rfl (m1 rfl (gt hb7 rfl (m1 rfl (gt hb7 rfl (leI rfl rfl rfl (pt hb7 rfl rfl (a1 rfl (on ?_))))))))
   cases hr8
   exact cu ⟨rfl, tv⟩
  ·have hr9 := if_n hb7 hx5
   refine gf hb7 rfl (gf hb7 rfl (gf hb7 rfl (pf hb7 rfl rfl (a1 rfl (on ?_)))))
   cases hr9
   exact cu ⟨rfl, tv⟩
 ·rintro a w ⟨hS, hA⟩
  refine TG.ap ?_ hS hA
  refine rt_ ?_
  cases hr6
  intro a w hS hA
  refine ret1 hA rfl rfl ?_
  exact ⟨rfl, hS.ext⟩

theorem w189 {M : Prop} {W : World} {H : Hp} (hH : H.le (hp W)) (x_0 : Int) {q_f0_ : Addr} {fv_f0_ : Value} {f0_ : Int → Option Bool} (hc_f0_ : CellsAt H q_f0_ [fv_f0_]) (h_f0_ : FnV M Tryz.prog H fv_f0_ (SF1 (Vi .u8) Value.bool f0_)) {r : Bool} (hr : m189 x_0 f0_ = some r) : Calls Tryz.prog 189 [.int .u8 x_0, .pointer (some q_f0_)].toArray W (RetS M W (.bool r)) := by
 have hh_f0_ := h_f0_
 obtain ⟨f_f0_, fi_f0_, ca_f0_, rfl, _, _⟩ := h_f0_
 unfold m189 at hr
 refine enterG (M := M) Tryz.func189 rfl Tryz.ntmps189 rfl hH ?_
 refine sq (rg (a1 rfl (on (sq (rg (ld G227 rfl rfl (sS 0 rfl hc_f0_) rfl (m1 rfl ?_)))))))
 obtain ⟨r1, hx2, hr3⟩ := bd_some hr
 refine clV (v := .bool r1) hh_f0_ 0 rfl rfl rfl rfl (fun H le => ⟨_, x_0, r1, rfl, rfl, hx2, rfl⟩) (nt rfl rfl (a1 rfl (on (rt_ ?_))))
 cases hr3
 intro a w hS hA
 refine ret1 hA rfl rfl ?_
 exact ⟨rfl, hS.ext⟩

theorem w200 {M : Prop} {W : World} {H : Hp} (hH : H.le (hp W)) {ad_s_0 : Option Addr} {cap_s_0 : Nat} {s_0 : List UInt8} (h_s_0 : Sl (Flat encC) 1 H ad_s_0 cap_s_0 s_0) {fv_f_1 : Value} {f_1 : Int → Option Bool} (h_f_1 : FnV M Tryz.prog H fv_f_1 (SF1 (Vi .u8) Value.bool f_1)) {r : Int} (hr : m200 s_0 f_1 = some r) : Calls Tryz.prog 200 [.slice ad_s_0 s_0.length cap_s_0, fv_f_1].toArray W (RetS M W (.int .i64 r)) := by
 have := h_s_0.len
 have hh_f_1 := h_f_1
 obtain ⟨f_f_1, fi_f_1, ca_f_1, rfl, _, _⟩ := h_f_1
 unfold m200 at hr
 refine enterG (M := M) Tryz.func200 rfl Tryz.ntmps200 rfl hH ?_
 refine sq (rg (a1 rfl (on (sq (sq (rg (m1 rfl (lnL U147 rfl rfl (m1 rfl (on ?_))))))))))
 obtain ⟨e19, hl20, hr21⟩ := bd_some hr
 refine jn (fun a w => ∃ t22, e19 = .inl t22 ∧ St M W H [H] [] w ∧ Has [] 19 a []) ?_ ?_
 ·refine bk ?_
  refine lp hl20 (fun s23 a w => St M W H [H] [] w ∧ Has [] 19 a [(0, .slice ad_s_0 s_0.length cap_s_0), (1, .func (.func f_f_1) fi_f_1.toArray ca_f_1.toArray), (7, .int .i64 (s_0.length : Int)), (8, .int .i64 (s23 : Int))]) ?_ ?_
  ·exact cu ⟨rfl, rfl, rfl, rfl, tv⟩
  ·rintro j s23 y26 hr24 hz25 a w ⟨hS, hA⟩
   refine TG.ap ?_ hS hA
   unfold m200_1 at hr24
   refine sq (rg (ltI rfl rfl rfl (on (sq ?_))))
   refine ci rfl (fun hc30 => ?_) (fun hc30 => ?_)
   ·have hr31 := if_p hc30 hr24
    refine sk (sq (bk (sq (rg (m1 rfl (a1 rfl (on (sq (rg (m1 rfl (m1 rfl ?_)))))))))))
    refine m1 rfl ?_
    obtain ⟨x46, hx47, hr48⟩ := bd_some hr31
    obtain ⟨p49, rfl⟩ := h_s_0.adr hx47
    obtain ⟨cs50, hcs51, hq52, hr53⟩ := h_s_0.at hx47
    have := UInt8.toNat_lt x46
    obtain rfl := hr53
    refine iaP U147 Z5 rfl rfl rfl rfl (lt_of hx47) (ld G5 rfl rfl (sS 0 rfl hq52) rfl ?_)
    obtain ⟨r54, hx55, hr56⟩ := bd_some hr48
    refine clV (v := .bool r54) hh_f_1 0 rfl rfl rfl rfl (fun H le => ⟨_, (x46.toNat : Int), r54, rfl, rfl, hx55, rfl⟩) (on ?_)
    refine cb rfl (fun hc60 => ?_) (fun hc60 => ?_)
    ·have hr61 := if_p hc60 hr56
     refine sq (rg (m1 rfl (a1 rfl (on (rt_ ?_)))))
     cases hr61
     obtain rfl := Fin.out hz25
     cases hr21
     intro a w hS hA
     refine ret1 hA rfl rfl ?_
     exact ⟨rfl, hS.ext⟩
    ·have hr62 := if_f hc60 hr56
     refine sk (rg (adI rfl rfl rfl (by omega) (m1 rfl (on ?_))))
     cases hr62
     intro a w hS hA
     exact ⟨_, hz25, hS, hA.cut ⟨rfl, rfl, rfl, rfl, tv⟩⟩
   ·have hr63 := if_n hc30 hr24
    refine xt rfl ?_
    cases hr63
    obtain rfl := Fin.out hz25
    intro a w hS hA
    exact ⟨_, rfl, hS, hA.cut tv⟩
 ·rintro a w ⟨t22, rfl, hS, hA⟩
  refine TG.ap ?_ hS hA
  refine sq (rg (a1 rfl (on (rt_ ?_))))
  cases hr21
  intro a w hS hA
  refine ret1 hA rfl rfl ?_
  exact ⟨rfl, hS.ext⟩

theorem w159 {M : Prop} {W : World} {H : Hp} (hH : H.le (hp W)) {ad_s_0 : Option Addr} {cap_s_0 : Nat} {s_0 : List UInt8} (h_s_0 : Sl (Flat encC) 1 H ad_s_0 cap_s_0 s_0) {fv_f_1 : Value} {f_1 : Int → Option Bool} (h_f_1 : FnV M Tryz.prog H fv_f_1 (SF1 (Vi .u8) Value.bool f_1)) {r : Bool} (hr : m159 s_0 f_1 = some r) : Calls Tryz.prog 159 [.slice ad_s_0 s_0.length cap_s_0, fv_f_1].toArray W (RetS M W (.bool r)) := by
 have := h_s_0.len
 have hh_f_1 := h_f_1
 obtain ⟨f_f_1, fi_f_1, ca_f_1, rfl, _, _⟩ := h_f_1
 unfold m159 at hr
 refine enterG (M := M) Tryz.func159 rfl Tryz.ntmps159 rfl hH ?_
 refine sq (rg (a1 rfl (on (sq (rg (m1 rfl (m1 rfl ?_)))))))
 obtain ⟨r1, hx2, hr3⟩ := bd_some hr
 refine clS C200 rfl rfl rfl rfl (fun w H hH le => w200 hH (h_s_0.mono (Flat.mono _) (le.at 0 rfl)) (f_1 := f_1) (hh_f_1.mono (le.at 0 rfl)) hx2) (geI rfl rfl rfl (a1 rfl (on (rt_ ?_))))
 cases hr3
 intro a w hS hA
 refine ret1 hA rfl rfl ?_
 exact ⟨rfl, hS.ext⟩

theorem w150 {M : Prop} {W : World} {H : Hp} (hH : H.le (hp W)) {ad_l_0 : Option Addr} {cap_l_0 : Nat} {l_0 : List UInt8} (h_l_0 : Sl (Flat encC) 1 H ad_l_0 cap_l_0 l_0) {fv_right : Value} {right : Int → Option Bool} (h_right : FnV M Tryz.prog H fv_right (SF1 (Vi .u8) Value.bool right)) {r : Bool} (hr : m150 l_0 right = some r) : Calls Tryz.prog 150 [.slice ad_l_0 l_0.length cap_l_0, fv_right].toArray W (RetS M W (.bool r)) := by
 have := h_l_0.len
 have hh_right := h_right
 obtain ⟨f_right, fi_right, ca_right, rfl, _, _⟩ := h_right
 unfold m150 at hr
 refine enterG (M := M) Tryz.func150 rfl Tryz.ntmps150 rfl hH ?_
 refine sq (rg (bI (cs := [.func (.func f_right) fi_right.toArray ca_right.toArray]) rfl rfl rfl fun q1 K2 hK3 => (a1 rfl (on (sq (rg (m1 rfl (fn rfl rfl rfl ?_))))))))
 obtain ⟨r5, hx6, hr7⟩ := bd_some hr
 refine clS (v := .bool r5) C159 rfl rfl rfl rfl (fun w H hH le => by
   have hf4 : FnV M Tryz.prog H (.func (.func 189) [].toArray [.pointer (some q1)].toArray) (SF1 (Vi .u8) Value.bool (fun x0_ => m189 x0_ right)) := ⟨189, [], [.pointer (some q1)], rfl, C189, fun w_ K_ args_ v_ hK hw hs => by obtain ⟨u0_, x0_, r_, rfl, h0_, hx, rfl⟩ := hs; cases h0_; exact w189 (H := K_) hw  x0_ (f0_ := right) (hK3.mono ((le.at 0 rfl).trans hK)) (hh_right.mono ((le.at 1 rfl).trans hK)) hx⟩
   exact w159 hH (h_l_0.mono (Flat.mono _) (le.at 1 rfl)) (f_1 := (fun x0_ => m189 x0_ right)) hf4 hx6) ?_
 refine nt rfl rfl (a1 rfl (on (rt_ ?_)))
 cases hr7
 intro a w hS hA
 refine ret1 hA rfl rfl ?_
 exact ⟨rfl, hS.ext⟩

theorem w112 {M : Prop} {W : World} {H : Hp} (hH : H.le (hp W)) (hg : Gv M H) (s_0 : Bytes) {r : Bool} (hr : m112 s_0 = some r) : Calls Tryz.prog 112 [.string (bs s_0)].toArray W (RetS M W (.bool r)) := by
 unfold m112 at hr
 refine enterG (M := M) Tryz.func112 rfl Tryz.ntmps112 rfl hH ?_
 refine sq (rg (a1 rfl (on (sq (rg (a1 rfl (on (sq ?_))))))))
 obtain ⟨t29, hx30, hr31⟩ := bd_some hr
 refine jn (fun a w => St M W H [H] [] w ∧ Has [] 24 a [(2, .bool t29)]) ?_ ?_
 ·refine rg (m1 rfl (lnS U9 rfl rfl ?_))
  obtain ⟨r32, hx33, hr34⟩ := bd_some hx30
  refine clS C48 rfl rfl rfl rfl (fun w H hH le => w48 (s_0.length : Int) 1 40 hx33) (m1 rfl ?_)
  rcases Bool.eq_false_or_eq_true (r32) with hb35 | hb35
  ·have hr36 := if_p hb35 hr34
   refine gN rfl rfl (hb35) (m1 rfl (gN rfl rfl (hb35) ?_))
   obtain ⟨hk41, hr42⟩ := chk_some hr36
   refine cvB U9 U147 U5 rfl rfl hk41 fun ad37 cap38 K39 hl40 => ?_
   have := hl40.len
   refine gN rfl rfl (hb35) (m1 rfl (gN rfl rfl (hb35) ?_))
   obtain ⟨r44, hx45, hr46⟩ := bd_some hr42
   refine clS (v := .bool r44) C150 rfl rfl rfl rfl (fun w H hH le => by
     have hf43 : FnV M Tryz.prog H (.func (.func 148) [].toArray [].toArray) (SF1 (Vi .u8) Value.bool (m148)) := ⟨148, [], [], rfl, C148, fun w_ K_ args_ v_ hK hw hs => by obtain ⟨u0_, x0_, r_, rfl, h0_, hx, rfl⟩ := hs; cases h0_; exact w148  x0_  hx⟩
     exact w150 hH (hl40.mono (Flat.mono _) (le.at 0 rfl)) (right := (m148)) hf43 hx45) ?_
   refine pT rfl rfl (hb35) rfl (m1 rfl ?_)
   rcases Bool.eq_false_or_eq_true (r44) with hb47 | hb47
   ·have hr48 := if_p hb47 hr46
    refine gN rfl rfl (hb47) (m1 rfl (gN rfl rfl (hb47) ?_))
    obtain ⟨r49, hx50, hr51⟩ := bd_some hr48
    refine clS C151 rfl rfl rfl rfl (fun w H hH le => w151 s_0 [32] hx50) (gN rfl rfl (hb47) (m1 rfl (gN rfl rfl (hb47) (eqS rfl rfl rfl (pT rfl rfl (hb47) rfl (m1 rfl ?_))))))
    by_cases hb52 : r49 = s_0
    ·have hr53 := if_p hb52 hr51
     refine gt hb52 rfl (m1 rfl (gt hb52 rfl ?_))
     obtain ⟨r54, hx55, hr56⟩ := bd_some hr53
     refine clS C106 rfl rfl rfl rfl (fun w H hH le => w106 hH (hg.mono (le.at 1 rfl)) s_0 [32, 32] hx55) (gt hb52 rfl (nt rfl rfl (pt hb52 rfl rfl (a1 rfl (on ?_)))))
     cases hr56
     intro a w hS hA
     exact ⟨hS.selH [1] rfl, hA.cut ⟨rfl, tv⟩⟩
    ·have hr57 := if_n hb52 hr51
     refine gf hb52 rfl (gf hb52 rfl (gf hb52 rfl (pf hb52 rfl rfl (a1 rfl (on ?_)))))
     cases hr57
     intro a w hS hA
     exact ⟨hS.selH [1] rfl, hA.cut ⟨rfl, tv⟩⟩
   ·have hr58 := if_f hb47 hr46
    refine gF rfl rfl (hb47) rfl (gF rfl rfl (hb47) rfl (gF rfl rfl (hb47) rfl (gF rfl rfl (hb47) rfl (pF rfl rfl (hb47) rfl (m1 rfl (gF rfl rfl rfl rfl (gF rfl rfl rfl rfl (gF rfl rfl rfl rfl (pF rfl rfl rfl rfl (a1 rfl (on ?_)))))))))))
    cases hr58
    intro a w hS hA
    exact ⟨hS.selH [1] rfl, hA.cut ⟨rfl, tv⟩⟩
  ·have hr59 := if_f hb35 hr34
   refine gF rfl rfl (hb35) rfl (gF rfl rfl (hb35) rfl (gF rfl rfl (hb35) rfl (gF rfl rfl (hb35) rfl (pF rfl rfl (hb35) rfl (m1 rfl (gF rfl rfl rfl rfl (gF rfl rfl rfl rfl (gF rfl rfl rfl rfl (gF rfl rfl rfl rfl (pF rfl rfl rfl rfl (m1 rfl ?_)))))))))))
   refine gF rfl rfl rfl rfl (gF rfl rfl rfl rfl (gF rfl rfl rfl rfl (pF rfl rfl rfl rfl (a1 rfl (on ?_)))))
   cases hr59
   exact cu ⟨rfl, tv⟩
 ·rintro a w ⟨hS, hA⟩
  refine TG.ap ?_ hS hA
  refine rt_ ?_
  cases hr31
  intro a w hS hA
  refine ret1 hA rfl rfl ?_
  exact ⟨rfl, hS.ext⟩

theorem w113 {M : Prop} {W : World} {H : Hp} (hH : H.le (hp W)) {ad_l_0 : Option Addr} {cap_l_0 : Nat} {l_0 : List Bytes} (h_l_0 : Sl (Flat encS) 1 H ad_l_0 cap_l_0 l_0) {fv_before : Value} {before : Bytes → Bytes → Option Bool} (h_before : FnV M Tryz.prog H fv_before (SF2 Vs Vs Value.bool before)) {r : Bool} (hr : m113 l_0 before = some r) : Calls Tryz.prog 113 [.slice ad_l_0 l_0.length cap_l_0, fv_before].toArray W (RetS M W (.bool r)) := by
 have := h_l_0.len
 have hh_before := h_before
 obtain ⟨f_before, fi_before, ca_before, rfl, _, _⟩ := h_before
 unfold m113 at hr
 refine enterG (M := M) Tryz.func113 rfl Tryz.ntmps113 rfl hH ?_
 refine sq (rg (a1 rfl (on (sq (sq (rg (m1 rfl (lnL U77 rfl rfl (m1 rfl (on ?_))))))))))
 obtain ⟨e32, hl33, hr34⟩ := bd_some hr
 refine jn (fun a w => ∃ t35, e32 = .inl t35 ∧ St M W H [H] [] w ∧ Has [] 28 a []) ?_ ?_
 ·refine bk ?_
  refine lp hl33 (fun s36 a w => St M W H [H] [] w ∧ Has [] 28 a [(0, .slice ad_l_0 l_0.length cap_l_0), (1, .func (.func f_before) fi_before.toArray ca_before.toArray), (7, .int .i64 (l_0.length : Int)), (8, .int .i64 (s36 : Int))]) ?_ ?_
  ·exact cu ⟨rfl, rfl, rfl, rfl, tv⟩
  ·rintro j s36 y39 hr37 hz38 a w ⟨hS, hA⟩
   refine TG.ap ?_ hS hA
   unfold m113_1 at hr37
   refine sq (rg (ltI rfl rfl rfl (on (sq ?_))))
   refine ci rfl (fun hc43 => ?_) (fun hc43 => ?_)
   ·have hr44 := if_p hc43 hr37
    refine sk (sq (bk (sq (rg (m1 rfl (a1 rfl (on (sq ?_))))))))
    obtain ⟨t95, hx96, hr97⟩ := bd_some hr44
    refine jn (fun a w => St M W H [H] [] w ∧ Has [] 28 a [(0, .slice ad_l_0 l_0.length cap_l_0), (1, .func (.func f_before) fi_before.toArray ca_before.toArray), (7, .int .i64 (l_0.length : Int)), (8, .int .i64 (s36 : Int)), (26, .bool t95)]) ?_ ?_
    ·by_cases hb98 : 0 < (s36 : Int)
     ·have hr99 := if_p hb98 hx96
      obtain ⟨x100, hx101, hr102⟩ := bd_some hr99
      obtain ⟨p103, rfl⟩ := h_l_0.adr hx101
      obtain ⟨cs104, hcs105, hq106, hr107⟩ := h_l_0.at hx101
      obtain rfl := hr107
      obtain ⟨x108, hx109, hr110⟩ := bd_some hr102
      obtain ⟨cs111, hcs112, hq113, hr114⟩ := h_l_0.at hx109
      obtain rfl := hr114
      refine drG 13 mixed (by kernel_rfl) rfl (dt rfl (m1 rfl fin1) (dt rfl (gtI rfl rfl rfl fin1) (dt rfl (m1 rfl fin1) (dt rfl (gt hb98 rfl (m1 rfl fin1)) (dt rfl (gt hb98 rfl (m1 rfl fin1)) (dt rfl (gt hb98 rfl (m1 rfl fin1)) (dt rfl (gt hb98 rfl (sbI rfl rfl rfl (by omega) fin1)) (dt rfl (gt hb98 rfl (iaP U77 Z9 rfl rfl rfl (by omega) (lt_of hx101) fin1)) (dt rfl (gt hb98 rfl (ld G9 rfl rfl (sS 1 rfl hq106) rfl fin1)) (dt rfl (gt hb98 rfl (m1 rfl fin1)) (dt rfl (gt hb98 rfl (m1 rfl fin1)) ?_)))))))))))
      refine dt rfl (gt hb98 rfl (iaP U77 Z9 rfl rfl rfl rfl (lt_of hx109) fin1)) (dt rfl (gt hb98 rfl (ld G9 rfl rfl (sS 1 rfl hq113) rfl fin1)) (DF.nil fun K115 hF => (gt hb98 rfl ?_)))
      obtain ⟨r116, hx117, hr118⟩ := bd_some hr110
      refine clV (v := .bool r116) hh_before 1 rfl rfl rfl rfl (fun H le => ⟨_, _, x100, x108, r116, rfl, rfl, rfl, hx117, rfl⟩) (gt hb98 rfl (nt rfl rfl (pt hb98 rfl rfl (on ?_))))
      cases hr118
      intro a w hS hA
      exact ⟨hS.selH [1] rfl, hA.cut ⟨rfl, rfl, rfl, rfl, rfl, tv⟩⟩
     ·have hr119 := if_n hb98 hx96
      refine drG 13 mixed (by kernel_rfl) rfl (dt rfl (m1 rfl fin1) (dt rfl (gtI rfl rfl rfl fin1) (dt rfl (m1 rfl fin1) (dt rfl (gf hb98 rfl fin1) (dt rfl (gf hb98 rfl fin1) (dt rfl (gf hb98 rfl fin1) (dt rfl (gf hb98 rfl fin1) (dt rfl (gf hb98 rfl fin1) (dt rfl (gf hb98 rfl fin1) (dt rfl (gf hb98 rfl fin1) (dt rfl (gf hb98 rfl fin1) ?_)))))))))))
      refine dt rfl (gf hb98 rfl fin1) (dt rfl (gf hb98 rfl fin1) (DF.nil fun K120 hF => (gf hb98 rfl (gf hb98 rfl (pf hb98 rfl rfl (on ?_))))))
      cases hr119
      intro a w hS hA
      exact ⟨hS.selH [1] rfl, hA.cut ⟨rfl, rfl, rfl, rfl, rfl, tv⟩⟩
    ·rintro a w ⟨hS, hA⟩
     refine TG.ap ?_ hS hA
     refine cb rfl (fun hc124 => ?_) (fun hc124 => ?_)
     ·have hr125 := if_p hc124 hr97
      refine sq (rg (a1 rfl (on (rt_ ?_))))
      cases hr125
      obtain rfl := Fin.out hz38
      cases hr34
      intro a w hS hA
      refine ret1 hA rfl rfl ?_
      exact ⟨rfl, hS.ext⟩
     ·have hr126 := if_f hc124 hr97
      refine sk (rg (adI rfl rfl rfl (by omega) (m1 rfl (on ?_))))
      cases hr126
      intro a w hS hA
      exact ⟨_, hz38, hS, hA.cut ⟨rfl, rfl, rfl, rfl, tv⟩⟩
   ·have hr127 := if_n hc43 hr37
    refine xt rfl ?_
    cases hr127
    obtain rfl := Fin.out hz38
    intro a w hS hA
    exact ⟨_, rfl, hS, hA.cut tv⟩
 ·rintro a w ⟨t35, rfl, hS, hA⟩
  refine TG.ap ?_ hS hA
  refine sq (rg (a1 rfl (on (rt_ ?_))))
  cases hr34
  intro a w hS hA
  refine ret1 hA rfl rfl ?_
  exact ⟨rfl, hS.ext⟩

theorem w156 {M : Prop} {W : World} (s_0 : Bytes) {r : Bytes} (hr : m156 s_0 = some r) : Calls Tryz.prog 156 [.string (bs s_0)].toArray W (RetS M W (.string (bs r))) := by
 unfold m156 at hr
 refine enterG (M := M) Tryz.func156 rfl Tryz.ntmps156 rfl (Hp.le.refl _) ?_
 refine sq (rg (a1 rfl (on (sq (rg (a1 rfl (on (sq (sq (rg (m1 rfl ?_)))))))))))
 obtain ⟨hk5, hr6⟩ := chk_some hr
 refine cvB U9 U147 U5 rfl rfl hk5 fun ad1 cap2 K3 hl4 => ?_
 have := hl4.len
 refine lnL U147 rfl rfl (m1 rfl (on (TG.nilRow 3 5 1 (TG.as 3 (z := Own.list none 0 5 1 encC ([] : List UInt8)) rfl rfl ?_))))
 obtain ⟨e224, hl225, hr226⟩ := bd_some hr6
 refine jn (fun a w => ∃ (ad227 : Option Addr) (cap228 : Nat), St M W (hp W) [K3, (hp W)] [(3, Own.list ad227 cap228 5 1 encC e224)] w ∧ Has [] 48 a [(3, .slice ad227 e224.length cap228)]) ?_ ?_
 ·refine bk ?_
  refine lp hl225 (fun s229 a w => ∃ (ad230 : Option Addr) (cap231 : Nat), St M W (hp W) [K3, (hp W)] [(3, Own.list ad230 cap231 5 1 encC s229.2)] w ∧ Has [] 48 a [(3, .slice ad230 s229.2.length cap231), (7, .slice ad1 s_0.length cap2), (8, .int .i64 (s_0.length : Int)), (9, .int .i64 (s229.1 : Int))]) ?_ ?_
  ·intro a w hS hA
   exact ⟨none, 0, hS, hA.cut ⟨rfl, rfl, rfl, rfl, tv⟩⟩
  ·rintro j s229 y234 hr232 hz233 a w ⟨ad230, cap231, hS, hA⟩
   refine TG.ap ?_ hS hA
   unfold m156_1 at hr232
   refine sq (rg (ltI rfl rfl rfl (on (sq ?_))))
   refine ci rfl (fun hc238 => ?_) (fun hc238 => ?_)
   ·have hr239 := if_p hc238 hr232
    refine sk (sq (bk (sq (rg ?_))))
    obtain ⟨x291, hx292, hr293⟩ := bd_some hr239
    obtain ⟨p294, rfl⟩ := hl4.adr hx292
    obtain ⟨cs295, hcs296, hq297, hr298⟩ := hl4.at hx292
    have := UInt8.toNat_lt x291
    obtain rfl := hr298
    refine iaP U147 Z5 rfl rfl rfl rfl (lt_of hx292) (ld G5 rfl rfl (sS 0 rfl hq297) rfl (a1 rfl (on (bk (sq ?_)))))
    obtain ⟨t345, hx346, hr347⟩ := bd_some hr293
    refine jn (fun a w => St M W (hp W) [K3, (hp W)] [(3, Own.list ad230 cap231 5 1 encC s229.2)] w ∧ Has [] 48 a [(3, .slice ad230 s229.2.length cap231), (5, .int .u8 (x291.toNat : Int)), (7, .slice (some p294) s_0.length cap2), (8, .int .i64 (s_0.length : Int)), (9, .int .i64 (s229.1 : Int)), (13, .bool t345)]) ?_ ?_
    ·refine rg (m1 rfl (leI rfl rfl rfl (m1 rfl ?_)))
     by_cases hb348 : (65 : Int) ≤ (x291.toNat : Int)
     ·have hr349 := if_p hb348 hx346
      refine gt hb348 rfl (m1 rfl (gt hb348 rfl (leI rfl rfl rfl (pt hb348 rfl rfl (a1 rfl (on ?_))))))
      cases hr349
      exact cu ⟨rfl, rfl, rfl, rfl, rfl, rfl, tv⟩
     ·have hr350 := if_n hb348 hx346
      refine gf hb348 rfl (gf hb348 rfl (pf hb348 rfl rfl (a1 rfl (on ?_))))
      cases hr350
      exact cu ⟨rfl, rfl, rfl, rfl, rfl, rfl, tv⟩
    ·rintro a w ⟨hS, hA⟩
     refine TG.ap ?_ hS hA
     obtain ⟨t387, hx388, hr389⟩ := bd_some hr347
     refine jn (fun a w => ∃ (ad390 : Option Addr) (cap391 : Nat), St M W (hp W) [K3, (hp W)] [(3, Own.list ad390 cap391 5 1 encC t387)] w ∧ Has [] 48 a [(3, .slice ad390 t387.length cap391), (7, .slice (some p294) s_0.length cap2), (8, .int .i64 (s_0.length : Int)), (9, .int .i64 (s229.1 : Int))]) ?_ ?_
     ·refine cb rfl (fun hc392 => ?_) (fun hc392 => ?_)
      ·have hr393 := if_p hc392 hx388
       refine rg (m1 rfl (m1 rfl ?_))
       obtain ⟨hk394, hr395⟩ := chk_some hr393
       refine wrI ((x291.toNat : Int) - 65) rfl rfl rfl (wr_u8 hk394) ?_
       obtain ⟨hk396, hr397⟩ := chk_some hr395
       refine wrI (((x291.toNat : Int) - 65) + 97) rfl rfl rfl (wr_u8 hk396) ?_
       obtain ⟨hk398, hr399⟩ := chk_some hr397
       have := lenA s229.2 [(UInt8.ofNat (((x291.toNat : Int) - 65) + 97).toNat)]
       have := len1 (UInt8.ofNat (((x291.toNat : Int) - 65) + 97).toNat)
       refine ap1 3 encC (l := s229.2) (UInt8.ofNat (((x291.toNat : Int) - 65) + 97).toNat) T10.E147 rfl rfl rfl rfl rfl rfl rfl (u8c hk396) rfl rfl rfl rfl hk398 fun ad400 cap401 u402 => (a1 rfl (on ?_))
       cases hr399
       intro a w hS hA
       exact ⟨ad400, cap401, hS, hA.cut ⟨rfl, rfl, rfl, rfl, tv⟩⟩
      ·have hr403 := if_f hc392 hx388
       refine sq ?_
       obtain ⟨t416, hx417, hr418⟩ := bd_some hr403
       refine jn (fun a w => St M W (hp W) [K3, (hp W)] [(3, Own.list ad230 cap231 5 1 encC s229.2)] w ∧ Has [] 48 a [(3, .slice ad230 s229.2.length cap231), (5, .int .u8 (x291.toNat : Int)), (7, .slice (some p294) s_0.length cap2), (8, .int .i64 (s_0.length : Int)), (9, .int .i64 (s229.1 : Int)), (26, .bool t416)]) ?_ ?_
       ·refine rg (m1 rfl (leI rfl rfl rfl (m1 rfl ?_)))
        by_cases hb419 : (97 : Int) ≤ (x291.toNat : Int)
        ·have hr420 := if_p hb419 hx417
         refine gt hb419 rfl (m1 rfl (gt hb419 rfl (leI rfl rfl rfl (pt hb419 rfl rfl (m1 rfl ?_)))))
         by_cases hb421 : (x291.toNat : Int) ≤ 122
         ·have hr422 := if_p hb421 hr420
          refine gf' hb421 rfl (gf' hb421 rfl (gf' hb421 rfl (gU rfl rfl rfl (gU rfl rfl rfl (gf' hb421 rfl (pt hb421 rfl rfl (a1 rfl (on ?_))))))))
          cases hr422
          exact cu ⟨rfl, rfl, rfl, rfl, rfl, rfl, tv⟩
         ·have hr423 := if_n hb421 hr420
          refine gt' hb421 rfl (m1 rfl (gt' hb421 rfl (leI rfl rfl rfl (gt' hb421 rfl (m1 rfl ?_)))))
          by_cases hb424 : (48 : Int) ≤ (x291.toNat : Int)
          ·have hr425 := if_p hb424 hr423
           refine gt hb424 rfl (m1 rfl (gt hb424 rfl (leI rfl rfl rfl (gt' hb421 rfl (pt hb424 rfl rfl (pf hb421 rfl rfl (a1 rfl (on ?_))))))))
           cases hr425
           exact cu ⟨rfl, rfl, rfl, rfl, rfl, rfl, tv⟩
          ·have hr426 := if_n hb424 hr423
           refine gf hb424 rfl (gf hb424 rfl (gt' hb421 rfl (pf hb424 rfl rfl (pf hb421 rfl rfl (a1 rfl (on ?_))))))
           cases hr426
           exact cu ⟨rfl, rfl, rfl, rfl, rfl, rfl, tv⟩
        ·have hr427 := if_n hb419 hx417
         refine gf hb419 rfl (gf hb419 rfl (pf hb419 rfl rfl (m1 rfl (gN rfl rfl rfl (m1 rfl (gN rfl rfl rfl (leI rfl rfl rfl (gN rfl rfl rfl (m1 rfl ?_)))))))))
         by_cases hb428 : (48 : Int) ≤ (x291.toNat : Int)
         ·have hr429 := if_p hb428 hr427
          refine gt hb428 rfl (m1 rfl (gt hb428 rfl (leI rfl rfl rfl (gN rfl rfl rfl (pt hb428 rfl rfl (pF rfl rfl rfl rfl (a1 rfl (on ?_))))))))
          cases hr429
          exact cu ⟨rfl, rfl, rfl, rfl, rfl, rfl, tv⟩
         ·have hr430 := if_n hb428 hr427
          refine gf hb428 rfl (gf hb428 rfl (gN rfl rfl rfl (pf hb428 rfl rfl (pF rfl rfl rfl rfl (a1 rfl (on ?_))))))
          cases hr430
          exact cu ⟨rfl, rfl, rfl, rfl, rfl, rfl, tv⟩
       ·rintro a w ⟨hS, hA⟩
        refine TG.ap ?_ hS hA
        obtain ⟨t439, hx440, hr441⟩ := bd_some hr418
        refine jn (fun a w => ∃ (ad442 : Option Addr) (cap443 : Nat), St M W (hp W) [K3, (hp W)] [(3, Own.list ad442 cap443 5 1 encC t439)] w ∧ Has [] 48 a [(3, .slice ad442 t439.length cap443), (7, .slice (some p294) s_0.length cap2), (8, .int .i64 (s_0.length : Int)), (9, .int .i64 (s229.1 : Int))]) ?_ ?_
        ·refine cb rfl (fun hc444 => ?_) (fun hc444 => ?_)
         ·have hr445 := if_p hc444 hx440
          refine rg (m1 rfl (m1 rfl ?_))
          obtain ⟨hk446, hr447⟩ := chk_some hr445
          have := lenA s229.2 [x291]
          have := len1 x291
          refine ap1 3 encC (l := s229.2) x291 T10.E147 rfl rfl rfl rfl rfl rfl rfl rfl rfl rfl rfl rfl hk446 fun ad448 cap449 u450 => (a1 rfl (on ?_))
          cases hr447
          intro a w hS hA
          exact ⟨ad448, cap449, hS, hA.cut ⟨rfl, rfl, rfl, rfl, tv⟩⟩
         ·have hr451 := if_f hc444 hx440
          refine sk ?_
          cases hr451
          intro a w hS hA
          exact ⟨ad230, cap231, hS, hA.cut ⟨rfl, rfl, rfl, rfl, tv⟩⟩
        ·rintro a w ⟨ad442, cap443, hS, hA⟩
         cases hr441
         exact ⟨ad442, cap443, hS, hA.cut ⟨rfl, rfl, rfl, rfl, tv⟩⟩
     ·rintro a w ⟨ad390, cap391, hS, hA⟩
      refine TG.ap ?_ hS hA
      refine rg (adI rfl rfl rfl (by omega) (m1 rfl (on ?_)))
      cases hr389
      intro a w hS hA
      exact ⟨_, hz233, ad390, cap391, hS, hA.cut ⟨rfl, rfl, rfl, rfl, tv⟩⟩
   ·have hr452 := if_n hc238 hr232
    refine xt rfl ?_
    cases hr452
    obtain rfl := Fin.out hz233
    intro a w hS hA
    exact ⟨ad230, cap231, hS, hA.cut ⟨rfl, tv⟩⟩
 ·rintro a w ⟨ad227, cap228, hS, hA⟩
  refine TG.ap ?_ hS hA
  refine sq (rg (m1 rfl (TG.still 3 rfl (fun _ => rfl) fun K453 hl454 => ?_)))
  have := hl454.len
  refine cvT hl454 0 rfl U147 U5 U9 rfl rfl (a1 rfl (on (rt_ ?_)))
  cases hr226
  intro a w hS hA
  refine ret1 hA rfl rfl ?_
  exact ⟨rfl, hS.ext⟩

theorem w129 {M : Prop} {W : World} {H : Hp} (hH : H.le (hp W)) {ad_vals : Option Addr} {cap_vals : Nat} {vals : List Int} (h_vals : Sl (Flat (encI .i64)) 1 H ad_vals cap_vals vals) {r : Int} (hr : m129 vals = some r) : Calls Tryz.prog 129 [.slice ad_vals vals.length cap_vals].toArray W (RetS M W (.int .i64 r)) := by
 have := h_vals.len
 unfold m129 at hr
 refine enterG (M := M) Tryz.func129 rfl Tryz.ntmps129 rfl hH ?_
 refine sq (rg (a1 rfl (on (sq (rg (a1 rfl (on (sq (sq (rg (m1 rfl ?_)))))))))))
 refine lnL U28 rfl rfl (m1 rfl (on ?_))
 obtain ⟨e16, hl17, hr18⟩ := bd_some hr
 refine jn (fun a w => ∃ t19, e16 = .inl t19 ∧ St M W H [H] [] w ∧ Has [] 18 a [(3, .int .i64 0)]) ?_ ?_
 ·refine bk ?_
  refine lp hl17 (fun s20 a w => St M W H [H] [] w ∧ Has [] 18 a [(3, .int .i64 0), (6, .slice ad_vals vals.length cap_vals), (7, .int .i64 (vals.length : Int)), (8, .int .i64 (s20 : Int))]) ?_ ?_
  ·exact cu ⟨rfl, rfl, rfl, rfl, tv⟩
  ·rintro j s20 y23 hr21 hz22 a w ⟨hS, hA⟩
   refine TG.ap ?_ hS hA
   unfold m129_1 at hr21
   refine sq (rg (ltI rfl rfl rfl (on (sq ?_))))
   refine ci rfl (fun hc27 => ?_) (fun hc27 => ?_)
   ·have hr28 := if_p hc27 hr21
    refine sk (sq (bk (sq (rg ?_))))
    obtain ⟨x40, hx41, hr42⟩ := bd_some hr28
    obtain ⟨p43, rfl⟩ := h_vals.adr hx41
    obtain ⟨cs44, hcs45, hq46, hr47⟩ := h_vals.at hx41
    obtain rfl := hr47
    refine iaP U28 Z3 rfl rfl rfl rfl (lt_of hx41) (ld G3 rfl rfl (sS 0 rfl hq46) rfl (a1 rfl (on (sq (rg (m1 rfl (m1 rfl (neI rfl rfl rfl (on ?_)))))))))
    refine ci rfl (fun hc51 => ?_) (fun hc51 => ?_)
    ·have hr52 := if_p hc51 hr42
     refine sq (rg (m1 rfl (a1 rfl (on (rt_ ?_)))))
     cases hr52
     obtain rfl := Fin.out hz22
     cases hr18
     intro a w hS hA
     refine ret1 hA rfl rfl ?_
     exact ⟨rfl, hS.ext⟩
    ·have hr53 := if_n hc51 hr42
     refine sk (rg (adI rfl rfl rfl (by omega) (m1 rfl (on ?_))))
     cases hr53
     intro a w hS hA
     exact ⟨_, hz22, hS, hA.cut ⟨rfl, rfl, rfl, rfl, tv⟩⟩
   ·have hr54 := if_n hc27 hr21
    refine xt rfl ?_
    cases hr54
    obtain rfl := Fin.out hz22
    intro a w hS hA
    exact ⟨_, rfl, hS, hA.cut ⟨rfl, tv⟩⟩
 ·rintro a w ⟨t19, rfl, hS, hA⟩
  refine TG.ap ?_ hS hA
  refine sq (rg (m1 rfl (a1 rfl (on (rt_ ?_)))))
  cases hr18
  intro a w hS hA
  refine ret1 hA rfl rfl ?_
  exact ⟨rfl, hS.ext⟩

theorem w121 {M : Prop} {W : World} (a_0 : Bytes) (b_1 : Bytes) {r : Int} (hr : m121 a_0 b_1 = some r) : Calls Tryz.prog 121 [.string (bs a_0), .string (bs b_1)].toArray W (RetS M W (.int .i64 r)) := by
 unfold m121 at hr
 refine enterG (M := M) Tryz.func121 rfl Tryz.ntmps121 rfl (Hp.le.refl _) ?_
 refine sq (rg (a1 rfl (on (sq (rg (m1 rfl ?_))))))
 obtain ⟨r1, hx2, hr3⟩ := bd_some hr
 refine clS C156 rfl rfl rfl rfl (fun w H hH le => w156 a_0 hx2) (m1 rfl ?_)
 obtain ⟨r4, hx5, hr6⟩ := bd_some hr3
 refine clS C156 rfl rfl rfl rfl (fun w H hH le => w156 b_1 hx5) ?_
 obtain ⟨r7, hx8, hr9⟩ := bd_some hr6
 refine clS C155 rfl rfl rfl rfl (fun w H hH le => w155 r1 r4 hx8) (m1 rfl (m1 rfl ?_))
 obtain ⟨r10, hx11, hr12⟩ := bd_some hr9
 refine clS C155 rfl rfl rfl rfl (fun w H hH le => w155 a_0 b_1 hx11) (bS (cs := [.int .i64 r7, .int .i64 r10]) T10.E28 rfl rfl rfl rfl fun q13 K14 hq15 hK16 => ?_)
 have hl17 : Sl (Flat (encI .i64)) 1 K14 (some q13) 2 ([r7, r10] : List Int) := Sl.litR (css := [[.int .i64 r7], [.int .i64 r10]]) (l := ([r7, r10] : List Int)) ⟨⟨rfl, rfl, rfl⟩, ⟨rfl, rfl, rfl⟩, tv⟩ hq15 hK16 rfl
 have := hl17.len
 obtain ⟨r18, hx19, hr20⟩ := bd_some hr12
 refine clS C129 rfl rfl rfl rfl (fun w H hH le => w129 hH (hl17.mono (Flat.mono _) (le.at 0 rfl)) hx19) (a1 rfl (on (rt_ ?_)))
 cases hr20
 intro a w hS hA
 refine ret1 hA rfl rfl ?_
 exact ⟨rfl, hS.ext⟩

theorem w79 {M : Prop} {W : World} (a_0 : Bytes) (b_1 : Bytes) {r : Bool} (hr : m79 a_0 b_1 = some r) : Calls Tryz.prog 79 [.string (bs a_0), .string (bs b_1)].toArray W (RetS M W (.bool r)) := by
 unfold m79 at hr
 refine enterG (M := M) Tryz.func79 rfl Tryz.ntmps79 rfl (Hp.le.refl _) ?_
 refine sq (rg (a1 rfl (on (sq (rg (m1 rfl (m1 rfl ?_)))))))
 obtain ⟨r1, hx2, hr3⟩ := bd_some hr
 refine clS C121 rfl rfl rfl rfl (fun w H hH le => w121 a_0 b_1 hx2) (ltI rfl rfl rfl (a1 rfl (on (rt_ ?_))))
 cases hr3
 intro a w hS hA
 refine ret1 hA rfl rfl ?_
 exact ⟨rfl, hS.ext⟩

theorem w111 {M : Prop} {W : World} {H : Hp} (hH : H.le (hp W)) (hg : Gv M H) {ad_l_0 : Option Addr} {cap_l_0 : Nat} {l_0 : List Bytes} (h_l_0 : Sl (Flat encS) 1 H ad_l_0 cap_l_0 l_0) {r : Bool} (hr : m111 l_0 = some r) : Calls Tryz.prog 111 [.slice ad_l_0 l_0.length cap_l_0].toArray W (RetS M W (.bool r)) := by
 have := h_l_0.len
 unfold m111 at hr
 refine enterG (M := M) Tryz.func111 rfl Tryz.ntmps111 rfl hH ?_
 refine sq (rg (a1 rfl (on (sq ?_))))
 obtain ⟨t15, hx16, hr17⟩ := bd_some hr
 refine jn (fun a w => St M W H [H] [] w ∧ Has [] 14 a [(2, .bool t15)]) ?_ ?_
 ·refine rg (m1 rfl (lnL U77 rfl rfl (leI rfl rfl rfl (m1 rfl ?_))))
  by_cases hb18 : (l_0.length : Int) ≤ 8
  ·have hr19 := if_p hb18 hx16
   refine gt hb18 rfl (m1 rfl (gt hb18 rfl ?_))
   obtain ⟨r21, hx22, hr23⟩ := bd_some hr19
   refine clS (v := .bool r21) C75 rfl rfl rfl rfl (fun w H hH le => by
     have hf20 : FnV M Tryz.prog H (.func (.func 112) [].toArray [].toArray) (SF1 Vs Value.bool (m112)) := ⟨112, [], [], rfl, C112, fun w_ K_ args_ v_ hK hw hs => by obtain ⟨u0_, x0_, r_, rfl, h0_, hx, rfl⟩ := hs; cases h0_; exact w112 (H := K_) hw (hg.mono ((le.at 0 rfl).trans hK))  x0_  hx⟩
     exact w75 hH (h_l_0.mono (Flat.mono _) (le.at 0 rfl)) (right := (m112)) hf20 hx22) ?_
   refine pt hb18 rfl rfl (m1 rfl ?_)
   rcases Bool.eq_false_or_eq_true (r21) with hb24 | hb24
   ·have hr25 := if_p hb24 hr23
    refine gN rfl rfl (hb24) (m1 rfl (gN rfl rfl (hb24) ?_))
    obtain ⟨r27, hx28, hr29⟩ := bd_some hr25
    refine clS (v := .bool r27) C113 rfl rfl rfl rfl (fun w H hH le => by
      have hf26 : FnV M Tryz.prog H (.func (.func 79) [].toArray [].toArray) (SF2 Vs Vs Value.bool (m79)) := ⟨79, [], [], rfl, C79, fun w_ K_ args_ v_ hK hw hs => by obtain ⟨u0_, u1_, x0_, x1_, r_, rfl, h0_, h1_, hx, rfl⟩ := hs; cases h0_; cases h1_; exact w79  x0_ x1_  hx⟩
      exact w113 hH (h_l_0.mono (Flat.mono _) (le.at 0 rfl)) (before := (m79)) hf26 hx28) ?_
    refine pT rfl rfl (hb24) rfl (a1 rfl (on ?_))
    cases hr29
    exact cu ⟨rfl, tv⟩
   ·have hr30 := if_f hb24 hr23
    refine gF rfl rfl (hb24) rfl (gF rfl rfl (hb24) rfl (pF rfl rfl (hb24) rfl (a1 rfl (on ?_))))
    cases hr30
    exact cu ⟨rfl, tv⟩
  ·have hr31 := if_n hb18 hx16
   refine gf hb18 rfl (gf hb18 rfl (pf hb18 rfl rfl (m1 rfl (gF rfl rfl rfl rfl (gF rfl rfl rfl rfl (pF rfl rfl rfl rfl (a1 rfl (on ?_))))))))
   cases hr31
   exact cu ⟨rfl, tv⟩
 ·rintro a w ⟨hS, hA⟩
  refine TG.ap ?_ hS hA
  refine rt_ ?_
  cases hr17
  intro a w hS hA
  refine ret1 hA rfl rfl ?_
  exact ⟨rfl, hS.ext⟩

theorem w153 {M : Prop} {W : World} {H : Hp} (hH : H.le (hp W)) {cs_x_0 : List Value} (x_0 : IPlace) (h_x_0 : (Flat encIPlace) H cs_x_0 x_0) {q_f0_ : Addr} {fv_f0_ : Value} {f0_ : IPlace → Option Bool} (hc_f0_ : CellsAt H q_f0_ [fv_f0_]) (h_f0_ : FnV M Tryz.prog H fv_f0_ (SF1 (Va encIPlace) Value.bool f0_)) {r : Bool} (hr : m153 x_0 f0_ = some r) : Calls Tryz.prog 153 [.agg cs_x_0.toArray, .pointer (some q_f0_)].toArray W (RetS M W (.bool r)) := by
 obtain rfl := h_x_0
 have hh_f0_ := h_f0_
 obtain ⟨f_f0_, fi_f0_, ca_f0_, rfl, _, _⟩ := h_f0_
 unfold m153 at hr
 refine enterG (M := M) Tryz.func153 rfl Tryz.ntmps153 rfl hH ?_
 refine sq (rg (bI (cs := [.int .i64 x_0.volume, .int .i64 x_0.from_, .int .i64 x_0.to_]) rfl rfl rfl fun q1 K2 hK3 => (a1 rfl (on (sq (rg (ld G219 rfl rfl (sS 1 rfl hc_f0_) rfl (ldA G83 Z83 rfl rfl (sS 0 rfl hK3) rfl ?_))))))))
 obtain ⟨r4, hx5, hr6⟩ := bd_some hr
 refine clV (v := .bool r4) hh_f0_ 1 rfl rfl rfl rfl (fun H le => ⟨_, x_0, r4, rfl, rfl, hx5, rfl⟩) (nt rfl rfl (a1 rfl (on (rt_ ?_))))
 cases hr6
 intro a w hS hA
 refine ret1 hA rfl rfl ?_
 exact ⟨rfl, hS.ext⟩

theorem w197 {M : Prop} {W : World} {H : Hp} (hH : H.le (hp W)) {ad_s_0 : Option Addr} {cap_s_0 : Nat} {s_0 : List IPlace} (h_s_0 : Sl (Flat encIPlace) 3 H ad_s_0 cap_s_0 s_0) {fv_f_1 : Value} {f_1 : IPlace → Option Bool} (h_f_1 : FnV M Tryz.prog H fv_f_1 (SF1 (Va encIPlace) Value.bool f_1)) {r : Int} (hr : m197 s_0 f_1 = some r) : Calls Tryz.prog 197 [.slice ad_s_0 s_0.length cap_s_0, fv_f_1].toArray W (RetS M W (.int .i64 r)) := by
 have := h_s_0.len
 have hh_f_1 := h_f_1
 obtain ⟨f_f_1, fi_f_1, ca_f_1, rfl, _, _⟩ := h_f_1
 unfold m197 at hr
 refine enterG (M := M) Tryz.func197 rfl Tryz.ntmps197 rfl hH ?_
 refine sq (rg (a1 rfl (on (sq (sq (rg (m1 rfl (lnL U84 rfl rfl (m1 rfl (on ?_))))))))))
 obtain ⟨e19, hl20, hr21⟩ := bd_some hr
 refine jn (fun a w => ∃ t22, e19 = .inl t22 ∧ St M W H [H] [] w ∧ Has [] 19 a []) ?_ ?_
 ·refine bk ?_
  refine lp hl20 (fun s23 a w => St M W H [H] [] w ∧ Has [] 19 a [(0, .slice ad_s_0 s_0.length cap_s_0), (1, .func (.func f_f_1) fi_f_1.toArray ca_f_1.toArray), (7, .int .i64 (s_0.length : Int)), (8, .int .i64 (s23 : Int))]) ?_ ?_
  ·exact cu ⟨rfl, rfl, rfl, rfl, tv⟩
  ·rintro j s23 y26 hr24 hz25 a w ⟨hS, hA⟩
   refine TG.ap ?_ hS hA
   unfold m197_1 at hr24
   refine sq (rg (ltI rfl rfl rfl (on (sq ?_))))
   refine ci rfl (fun hc30 => ?_) (fun hc30 => ?_)
   ·have hr31 := if_p hc30 hr24
    refine sk (sq (bk (sq (rg (m1 rfl (a1 rfl (on (sq (rg (m1 rfl (m1 rfl ?_)))))))))))
    refine m1 rfl ?_
    obtain ⟨x46, hx47, hr48⟩ := bd_some hr31
    obtain ⟨p49, rfl⟩ := h_s_0.adr hx47
    obtain ⟨cs50, hcs51, hq52, hr53⟩ := h_s_0.at hx47
    obtain rfl := hr53
    refine iaP U84 Z83 rfl rfl rfl rfl (lt_of hx47) (ldA G83 Z83 rfl rfl (sS 0 rfl hq52) rfl ?_)
    obtain ⟨r54, hx55, hr56⟩ := bd_some hr48
    refine clV (v := .bool r54) hh_f_1 0 rfl rfl rfl rfl (fun H le => ⟨_, x46, r54, rfl, rfl, hx55, rfl⟩) (on ?_)
    refine cb rfl (fun hc60 => ?_) (fun hc60 => ?_)
    ·have hr61 := if_p hc60 hr56
     refine sq (rg (m1 rfl (a1 rfl (on (rt_ ?_)))))
     cases hr61
     obtain rfl := Fin.out hz25
     cases hr21
     intro a w hS hA
     refine ret1 hA rfl rfl ?_
     exact ⟨rfl, hS.ext⟩
    ·have hr62 := if_f hc60 hr56
     refine sk (rg (adI rfl rfl rfl (by omega) (m1 rfl (on ?_))))
     cases hr62
     intro a w hS hA
     exact ⟨_, hz25, hS, hA.cut ⟨rfl, rfl, rfl, rfl, tv⟩⟩
   ·have hr63 := if_n hc30 hr24
    refine xt rfl ?_
    cases hr63
    obtain rfl := Fin.out hz25
    intro a w hS hA
    exact ⟨_, rfl, hS, hA.cut tv⟩
 ·rintro a w ⟨t22, rfl, hS, hA⟩
  refine TG.ap ?_ hS hA
  refine sq (rg (a1 rfl (on (rt_ ?_))))
  cases hr21
  intro a w hS hA
  refine ret1 hA rfl rfl ?_
  exact ⟨rfl, hS.ext⟩

theorem w152 {M : Prop} {W : World} {H : Hp} (hH : H.le (hp W)) {ad_s_0 : Option Addr} {cap_s_0 : Nat} {s_0 : List IPlace} (h_s_0 : Sl (Flat encIPlace) 3 H ad_s_0 cap_s_0 s_0) {fv_f_1 : Value} {f_1 : IPlace → Option Bool} (h_f_1 : FnV M Tryz.prog H fv_f_1 (SF1 (Va encIPlace) Value.bool f_1)) {r : Bool} (hr : m152 s_0 f_1 = some r) : Calls Tryz.prog 152 [.slice ad_s_0 s_0.length cap_s_0, fv_f_1].toArray W (RetS M W (.bool r)) := by
 have := h_s_0.len
 have hh_f_1 := h_f_1
 obtain ⟨f_f_1, fi_f_1, ca_f_1, rfl, _, _⟩ := h_f_1
 unfold m152 at hr
 refine enterG (M := M) Tryz.func152 rfl Tryz.ntmps152 rfl hH ?_
 refine sq (rg (a1 rfl (on (sq (rg (m1 rfl (m1 rfl ?_)))))))
 obtain ⟨r1, hx2, hr3⟩ := bd_some hr
 refine clS C197 rfl rfl rfl rfl (fun w H hH le => w197 hH (h_s_0.mono (Flat.mono _) (le.at 0 rfl)) (f_1 := f_1) (hh_f_1.mono (le.at 0 rfl)) hx2) (geI rfl rfl rfl (a1 rfl (on (rt_ ?_))))
 cases hr3
 intro a w hS hA
 refine ret1 hA rfl rfl ?_
 exact ⟨rfl, hS.ext⟩

theorem w114 {M : Prop} {W : World} {H : Hp} (hH : H.le (hp W)) {ad_l_0 : Option Addr} {cap_l_0 : Nat} {l_0 : List IPlace} (h_l_0 : Sl (Flat encIPlace) 3 H ad_l_0 cap_l_0 l_0) {fv_right : Value} {right : IPlace → Option Bool} (h_right : FnV M Tryz.prog H fv_right (SF1 (Va encIPlace) Value.bool right)) {r : Bool} (hr : m114 l_0 right = some r) : Calls Tryz.prog 114 [.slice ad_l_0 l_0.length cap_l_0, fv_right].toArray W (RetS M W (.bool r)) := by
 have := h_l_0.len
 have hh_right := h_right
 obtain ⟨f_right, fi_right, ca_right, rfl, _, _⟩ := h_right
 unfold m114 at hr
 refine enterG (M := M) Tryz.func114 rfl Tryz.ntmps114 rfl hH ?_
 refine sq (rg (bI (cs := [.func (.func f_right) fi_right.toArray ca_right.toArray]) rfl rfl rfl fun q1 K2 hK3 => (a1 rfl (on (sq (rg (m1 rfl (fn rfl rfl rfl ?_))))))))
 obtain ⟨r5, hx6, hr7⟩ := bd_some hr
 refine clS (v := .bool r5) C152 rfl rfl rfl rfl (fun w H hH le => by
   have hf4 : FnV M Tryz.prog H (.func (.func 153) [].toArray [.pointer (some q1)].toArray) (SF1 (Va encIPlace) Value.bool (fun x0_ => m153 x0_ right)) := ⟨153, [], [.pointer (some q1)], rfl, C153, fun w_ K_ args_ v_ hK hw hs => by obtain ⟨u0_, x0_, r_, rfl, h0_, hx, rfl⟩ := hs; cases h0_; exact w153 (H := K_) hw  x0_ rfl (f0_ := right) (hK3.mono ((le.at 0 rfl).trans hK)) (hh_right.mono ((le.at 1 rfl).trans hK)) hx⟩
   exact w152 hH (h_l_0.mono (Flat.mono _) (le.at 1 rfl)) (f_1 := (fun x0_ => m153 x0_ right)) hf4 hx6) ?_
 refine nt rfl rfl (a1 rfl (on (rt_ ?_)))
 cases hr7
 intro a w hS hA
 refine ret1 hA rfl rfl ?_
 exact ⟨rfl, hS.ext⟩

theorem w115 {M : Prop} {W : World} {cs_p_0 : List Value} (p_0 : IPlace) (h_p_0 : (Flat encIPlace) (hp W) cs_p_0 p_0) {r : Bool} (hr : m115 p_0 = some r) : Calls Tryz.prog 115 [.agg cs_p_0.toArray].toArray W (RetS M W (.bool r)) := by
 obtain rfl := h_p_0
 unfold m115 at hr
 refine enterG (M := M) Tryz.func115 rfl Tryz.ntmps115 rfl (Hp.le.refl _) ?_
 refine sq (rg (bI (cs := [.int .i64 p_0.volume, .int .i64 p_0.from_, .int .i64 p_0.to_]) rfl rfl rfl fun q1 K2 hK3 => (a1 rfl (on (sq ?_)))))
 obtain ⟨t16, hx17, hr18⟩ := bd_some hr
 refine jn (fun a w => St M W (hp W) [K2, (hp W)] [] w ∧ Has [] 18 a [(2, .bool t16)]) ?_ ?_
 ·refine rg (fb 0 U83 rfl rfl rfl rfl Z3 (ld G3 rfl rfl ((sS 0 rfl hK3).take 1) rfl ?_))
  obtain ⟨r19, hx20, hr21⟩ := bd_some hx17
  refine clS C48 rfl rfl rfl rfl (fun w H hH le => w48 p_0.volume 1 999 hx20) (m1 rfl ?_)
  rcases Bool.eq_false_or_eq_true (r19) with hb22 | hb22
  ·have hr23 := if_p hb22 hr21
   refine gN rfl rfl (hb22) (fb 1 U83 rfl rfl rfl rfl Z3 (gN rfl rfl (hb22) (ld G3 rfl rfl (((sS 0 rfl hK3).drop 1).take 1) rfl (gN rfl rfl (hb22) (fb 2 U83 rfl rfl rfl rfl Z3 (gN rfl rfl (hb22) (ld G3 rfl rfl ((sS 0 rfl hK3).drop 2) rfl (gN rfl rfl (hb22) ?_))))))))
   obtain ⟨r24, hx25, hr26⟩ := bd_some hr23
   refine clS C48 rfl rfl rfl rfl (fun w H hH le => w48 p_0.from_ 1 p_0.to_ hx25) (pT rfl rfl (hb22) rfl (m1 rfl ?_))
   rcases Bool.eq_false_or_eq_true (r24) with hb27 | hb27
   ·have hr28 := if_p hb27 hr26
    refine gN rfl rfl (hb27) (fb 2 U83 rfl rfl rfl rfl Z3 (gN rfl rfl (hb27) (ld G3 rfl rfl ((sS 0 rfl hK3).drop 2) rfl (gN rfl rfl (hb27) (leI rfl rfl rfl (pT rfl rfl (hb27) rfl (a1 rfl (on ?_))))))))
    cases hr28
    exact cu ⟨rfl, tv⟩
   ·have hr29 := if_f hb27 hr26
    refine gF rfl rfl (hb27) rfl (gF rfl rfl (hb27) rfl (gF rfl rfl (hb27) rfl (pF rfl rfl (hb27) rfl (a1 rfl (on ?_)))))
    cases hr29
    exact cu ⟨rfl, tv⟩
  ·have hr30 := if_f hb22 hr21
   refine gF rfl rfl (hb22) rfl (gF rfl rfl (hb22) rfl (gF rfl rfl (hb22) rfl (gF rfl rfl (hb22) rfl (gF rfl rfl (hb22) rfl (pF rfl rfl (hb22) rfl (m1 rfl (gF rfl rfl rfl rfl (gF rfl rfl rfl rfl (gF rfl rfl rfl rfl (pF rfl rfl rfl rfl (a1 rfl ?_)))))))))))
   refine on ?_
   cases hr30
   exact cu ⟨rfl, tv⟩
 ·rintro a w ⟨hS, hA⟩
  refine TG.ap ?_ hS hA
  refine rt_ ?_
  cases hr18
  intro a w hS hA
  refine ret1 hA rfl rfl ?_
  exact ⟨rfl, hS.ext⟩

theorem w116 {M : Prop} {W : World} {H : Hp} (hH : H.le (hp W)) {ad_l_0 : Option Addr} {cap_l_0 : Nat} {l_0 : List IPlace} (h_l_0 : Sl (Flat encIPlace) 3 H ad_l_0 cap_l_0 l_0) {fv_before : Value} {before : IPlace → IPlace → Option Bool} (h_before : FnV M Tryz.prog H fv_before (SF2 (Va encIPlace) (Va encIPlace) Value.bool before)) {r : Bool} (hr : m116 l_0 before = some r) : Calls Tryz.prog 116 [.slice ad_l_0 l_0.length cap_l_0, fv_before].toArray W (RetS M W (.bool r)) := by
 have := h_l_0.len
 have hh_before := h_before
 obtain ⟨f_before, fi_before, ca_before, rfl, _, _⟩ := h_before
 unfold m116 at hr
 refine enterG (M := M) Tryz.func116 rfl Tryz.ntmps116 rfl hH ?_
 refine sq (rg (a1 rfl (on (sq (sq (rg (m1 rfl (lnL U84 rfl rfl (m1 rfl (on ?_))))))))))
 obtain ⟨e32, hl33, hr34⟩ := bd_some hr
 refine jn (fun a w => ∃ t35, e32 = .inl t35 ∧ St M W H [H] [] w ∧ Has [] 28 a []) ?_ ?_
 ·refine bk ?_
  refine lp hl33 (fun s36 a w => St M W H [H] [] w ∧ Has [] 28 a [(0, .slice ad_l_0 l_0.length cap_l_0), (1, .func (.func f_before) fi_before.toArray ca_before.toArray), (7, .int .i64 (l_0.length : Int)), (8, .int .i64 (s36 : Int))]) ?_ ?_
  ·exact cu ⟨rfl, rfl, rfl, rfl, tv⟩
  ·rintro j s36 y39 hr37 hz38 a w ⟨hS, hA⟩
   refine TG.ap ?_ hS hA
   unfold m116_1 at hr37
   refine sq (rg (ltI rfl rfl rfl (on (sq ?_))))
   refine ci rfl (fun hc43 => ?_) (fun hc43 => ?_)
   ·have hr44 := if_p hc43 hr37
    refine sk (sq (bk (sq (rg (m1 rfl (a1 rfl (on (sq ?_))))))))
    obtain ⟨t95, hx96, hr97⟩ := bd_some hr44
    refine jn (fun a w => St M W H [H] [] w ∧ Has [] 28 a [(0, .slice ad_l_0 l_0.length cap_l_0), (1, .func (.func f_before) fi_before.toArray ca_before.toArray), (7, .int .i64 (l_0.length : Int)), (8, .int .i64 (s36 : Int)), (26, .bool t95)]) ?_ ?_
    ·by_cases hb98 : 0 < (s36 : Int)
     ·have hr99 := if_p hb98 hx96
      obtain ⟨x100, hx101, hr102⟩ := bd_some hr99
      obtain ⟨p103, rfl⟩ := h_l_0.adr hx101
      obtain ⟨cs104, hcs105, hq106, hr107⟩ := h_l_0.at hx101
      obtain rfl := hr107
      obtain ⟨x108, hx109, hr110⟩ := bd_some hr102
      obtain ⟨cs111, hcs112, hq113, hr114⟩ := h_l_0.at hx109
      obtain rfl := hr114
      refine drG 13 mixed (by kernel_rfl) rfl (dt rfl (m1 rfl fin1) (dt rfl (gtI rfl rfl rfl fin1) (dt rfl (m1 rfl fin1) (dt rfl (gt hb98 rfl (m1 rfl fin1)) (dt rfl (gt hb98 rfl (m1 rfl fin1)) (dt rfl (gt hb98 rfl (m1 rfl fin1)) (dt rfl (gt hb98 rfl (sbI rfl rfl rfl (by omega) fin1)) (dt rfl (gt hb98 rfl (iaP U84 Z83 rfl rfl rfl (by omega) (lt_of hx101) fin1)) (dt rfl (gt hb98 rfl (ldA G83 Z83 rfl rfl (sS 1 rfl hq106) rfl fin1)) (dt rfl (gt hb98 rfl (m1 rfl fin1)) (dt rfl (gt hb98 rfl (m1 rfl fin1)) ?_)))))))))))
      refine dt rfl (gt hb98 rfl (iaP U84 Z83 rfl rfl rfl rfl (lt_of hx109) fin1)) (dt rfl (gt hb98 rfl (ldA G83 Z83 rfl rfl (sS 1 rfl hq113) rfl fin1)) (DF.nil fun K115 hF => (gt hb98 rfl ?_)))
      obtain ⟨r116, hx117, hr118⟩ := bd_some hr110
      refine clV (v := .bool r116) hh_before 1 rfl rfl rfl rfl (fun H le => ⟨_, _, x100, x108, r116, rfl, rfl, rfl, hx117, rfl⟩) (gt hb98 rfl (nt rfl rfl (pt hb98 rfl rfl (on ?_))))
      cases hr118
      intro a w hS hA
      exact ⟨hS.selH [1] rfl, hA.cut ⟨rfl, rfl, rfl, rfl, rfl, tv⟩⟩
     ·have hr119 := if_n hb98 hx96
      refine drG 13 mixed (by kernel_rfl) rfl (dt rfl (m1 rfl fin1) (dt rfl (gtI rfl rfl rfl fin1) (dt rfl (m1 rfl fin1) (dt rfl (gf hb98 rfl fin1) (dt rfl (gf hb98 rfl fin1) (dt rfl (gf hb98 rfl fin1) (dt rfl (gf hb98 rfl fin1) (dt rfl (gf hb98 rfl fin1) (dt rfl (gf hb98 rfl fin1) (dt rfl (gf hb98 rfl fin1) (dt rfl (gf hb98 rfl fin1) ?_)))))))))))
      refine dt rfl (gf hb98 rfl fin1) (dt rfl (gf hb98 rfl fin1) (DF.nil fun K120 hF => (gf hb98 rfl (gf hb98 rfl (pf hb98 rfl rfl (on ?_))))))
      cases hr119
      intro a w hS hA
      exact ⟨hS.selH [1] rfl, hA.cut ⟨rfl, rfl, rfl, rfl, rfl, tv⟩⟩
    ·rintro a w ⟨hS, hA⟩
     refine TG.ap ?_ hS hA
     refine cb rfl (fun hc124 => ?_) (fun hc124 => ?_)
     ·have hr125 := if_p hc124 hr97
      refine sq (rg (a1 rfl (on (rt_ ?_))))
      cases hr125
      obtain rfl := Fin.out hz38
      cases hr34
      intro a w hS hA
      refine ret1 hA rfl rfl ?_
      exact ⟨rfl, hS.ext⟩
     ·have hr126 := if_f hc124 hr97
      refine sk (rg (adI rfl rfl rfl (by omega) (m1 rfl (on ?_))))
      cases hr126
      intro a w hS hA
      exact ⟨_, hz38, hS, hA.cut ⟨rfl, rfl, rfl, rfl, tv⟩⟩
   ·have hr127 := if_n hc43 hr37
    refine xt rfl ?_
    cases hr127
    obtain rfl := Fin.out hz38
    intro a w hS hA
    exact ⟨_, rfl, hS, hA.cut tv⟩
 ·rintro a w ⟨t35, rfl, hS, hA⟩
  refine TG.ap ?_ hS hA
  refine sq (rg (a1 rfl (on (rt_ ?_))))
  cases hr34
  intro a w hS hA
  refine ret1 hA rfl rfl ?_
  exact ⟨rfl, hS.ext⟩

theorem w117 {M : Prop} {W : World} {cs_p_0 : List Value} (p_0 : IPlace) (h_p_0 : (Flat encIPlace) (hp W) cs_p_0 p_0) {cs_o_1 : List Value} (o_1 : IPlace) (h_o_1 : (Flat encIPlace) (hp W) cs_o_1 o_1) {r : Bool} (hr : m117 p_0 o_1 = some r) : Calls Tryz.prog 117 [.agg cs_p_0.toArray, .agg cs_o_1.toArray].toArray W (RetS M W (.bool r)) := by
 obtain rfl := h_p_0
 obtain rfl := h_o_1
 unfold m117 at hr
 refine enterG (M := M) Tryz.func117 rfl Tryz.ntmps117 rfl (Hp.le.refl _) ?_
 refine sq (rg (bI (cs := [.int .i64 p_0.volume, .int .i64 p_0.from_, .int .i64 p_0.to_]) rfl rfl rfl fun q1 K2 hK3 => (bI (cs := [.int .i64 o_1.volume, .int .i64 o_1.from_, .int .i64 o_1.to_]) rfl rfl rfl fun q4 K5 hK6 => (a1 rfl (on (sq ?_))))))
 obtain ⟨t15, hx16, hr17⟩ := bd_some hr
 refine jn (fun a w => St M W (hp W) [K5, K2, (hp W)] [] w ∧ Has [] 25 a [(4, .bool t15)]) ?_ ?_
 ·refine rg (fb 0 U83 rfl rfl rfl rfl Z3 (ld G3 rfl rfl ((sS 1 rfl hK3).take 1) rfl (fb 0 U83 rfl rfl rfl rfl Z3 (ld G3 rfl rfl ((sS 0 rfl hK6).take 1) rfl (ltI rfl rfl rfl (m1 rfl ?_))))))
  by_cases hb18 : p_0.volume < o_1.volume
  ·have hr19 := if_p hb18 hx16
   refine gf' hb18 rfl (gf' hb18 rfl (gf' hb18 rfl (gf' hb18 rfl (gf' hb18 rfl (gf' hb18 rfl (gU rfl rfl rfl (gU rfl rfl rfl (gU rfl rfl rfl (gU rfl rfl rfl (gU rfl rfl rfl (gU rfl rfl rfl ?_)))))))))))
   refine gf' hb18 rfl (pt hb18 rfl rfl (a1 rfl (on ?_)))
   cases hr19
   exact cu ⟨rfl, tv⟩
  ·have hr20 := if_n hb18 hx16
   refine gt' hb18 rfl (fb 0 U83 rfl rfl rfl rfl Z3 (gt' hb18 rfl (ld G3 rfl rfl ((sS 1 rfl hK3).take 1) rfl (gt' hb18 rfl (fb 0 U83 rfl rfl rfl rfl Z3 (gt' hb18 rfl (ld G3 rfl rfl ((sS 0 rfl hK6).take 1) rfl (gt' hb18 rfl (eqI rfl rfl rfl (gt' hb18 rfl (m1 rfl ?_)))))))))))
   by_cases hb21 : p_0.volume = o_1.volume
   ·have hr22 := if_p hb21 hr20
    refine gt hb21 rfl (fb 2 U83 rfl rfl rfl rfl Z3 (gt hb21 rfl (ld G3 rfl rfl ((sS 1 rfl hK3).drop 2) rfl (gt hb21 rfl ?_))))
    obtain ⟨hk23, hr24⟩ := chk_some hr22
    refine adI rfl rfl rfl hk23 (gt hb21 rfl (fb 1 U83 rfl rfl rfl rfl Z3 (gt hb21 rfl (ld G3 rfl rfl (((sS 0 rfl hK6).drop 1).take 1) rfl (gt hb21 rfl (ltI rfl rfl rfl (gt' hb18 rfl (pt hb21 rfl rfl (pf hb18 rfl rfl (a1 rfl (on ?_)))))))))))
    cases hr24
    exact cu ⟨rfl, tv⟩
   ·have hr25 := if_n hb21 hr20
    refine gf hb21 rfl (gf hb21 rfl (gf hb21 rfl (gf hb21 rfl (gf hb21 rfl (gf hb21 rfl (gt' hb18 rfl (pf hb21 rfl rfl (pf hb18 rfl rfl (a1 rfl (on ?_))))))))))
    cases hr25
    exact cu ⟨rfl, tv⟩
 ·rintro a w ⟨hS, hA⟩
  refine TG.ap ?_ hS hA
  refine rt_ ?_
  cases hr17
  intro a w hS hA
  refine ret1 hA rfl rfl ?_
  exact ⟨rfl, hS.ext⟩

theorem w72 {M : Prop} {W : World} {H : Hp} (hH : H.le (hp W)) (hg : Gv M H) {cs_h_0 : List Value} (h_0 : Heading) (h_h_0 : (RHeading) H cs_h_0 h_0) {r : Bool} (hr : m72 h_0 = some r) : Calls Tryz.prog 72 [.agg cs_h_0.toArray].toArray W (RetS M W (.bool r)) := by
 have hh_h_0 := h_h_0
 obtain ⟨ad1, cap2, ad4, cap5, ad7, cap8, rfl, hl3, hl6, hl9⟩ := h_h_0
 have := hl3.len
 have := hl6.len
 have := hl9.len
 unfold m72 at hr
 refine enterG (M := M) Tryz.func72 rfl Tryz.ntmps72 rfl hH ?_
 refine sq (rg (bI (cs := [.string (bs h_0.name), .slice ad1 h_0.variants.length cap2, .slice ad4 h_0.also.length cap5, .slice ad7 h_0.places.length cap8]) rfl rfl rfl fun q10 K11 hK12 => (a1 rfl (on (sq (rg (a1 rfl (on (sq ?_)))))))))
 obtain ⟨t45, hx46, hr47⟩ := bd_some hr
 refine jn (fun a w => St M W H [K11, H] [] w ∧ Has [] 35 a [(2, .bool t45)]) ?_ ?_
 ·refine rg (fb 0 U86 rfl rfl rfl rfl Z9 (ld G9 rfl rfl ((sS 0 rfl hK12).take 1) rfl ?_))
  obtain ⟨r48, hx49, hr50⟩ := bd_some hx46
  refine clS C112 rfl rfl rfl rfl (fun w H hH le => w112 hH (hg.mono (le.at 1 rfl)) h_0.name hx49) (m1 rfl ?_)
  rcases Bool.eq_false_or_eq_true (r48) with hb51 | hb51
  ·have hr52 := if_p hb51 hr50
   refine gN rfl rfl (hb51) (m1 rfl (gN rfl rfl (hb51) (fb 1 U86 rfl rfl rfl rfl Z77 (gN rfl rfl (hb51) (ld G77 rfl rfl (((sS 0 rfl hK12).drop 1).take 1) rfl (gN rfl rfl (hb51) ?_))))))
   obtain ⟨r53, hx54, hr55⟩ := bd_some hr52
   refine clS C111 rfl rfl rfl rfl (fun w H hH le => w111 hH (hg.mono (le.at 1 rfl)) (hl3.mono (Flat.mono _) (le.at 1 rfl)) hx54) (pT rfl rfl (hb51) rfl (m1 rfl ?_))
   rcases Bool.eq_false_or_eq_true (r53) with hb56 | hb56
   ·have hr57 := if_p hb56 hr55
    refine gN rfl rfl (hb56) (m1 rfl (gN rfl rfl (hb56) (fb 2 U86 rfl rfl rfl rfl Z77 (gN rfl rfl (hb56) (ld G77 rfl rfl (((sS 0 rfl hK12).drop 2).take 1) rfl (gN rfl rfl (hb56) ?_))))))
    obtain ⟨r58, hx59, hr60⟩ := bd_some hr57
    refine clS C111 rfl rfl rfl rfl (fun w H hH le => w111 hH (hg.mono (le.at 1 rfl)) (hl6.mono (Flat.mono _) (le.at 1 rfl)) hx59) (pT rfl rfl (hb56) rfl (m1 rfl ?_))
    rcases Bool.eq_false_or_eq_true (r58) with hb61 | hb61
    ·have hr62 := if_p hb61 hr60
     refine gN rfl rfl (hb61) (fb 3 U86 rfl rfl rfl rfl Z84 (gN rfl rfl (hb61) (ld G84 rfl rfl ((sS 0 rfl hK12).drop 3) rfl (gN rfl rfl (hb61) (lnL U84 rfl rfl (gN rfl rfl (hb61) (leI rfl rfl rfl (pT rfl rfl (hb61) rfl (m1 rfl ?_)))))))))
     by_cases hb63 : (h_0.places.length : Int) ≤ 30
     ·have hr64 := if_p hb63 hr62
      refine gt hb63 rfl (fb 3 U86 rfl rfl rfl rfl Z84 (gt hb63 rfl (ld G84 rfl rfl ((sS 0 rfl hK12).drop 3) rfl (gt hb63 rfl ?_))))
      obtain ⟨r66, hx67, hr68⟩ := bd_some hr64
      refine clS (v := .bool r66) C114 rfl rfl rfl rfl (fun w H hH le => by
        have hf65 : FnV M Tryz.prog H (.func (.func 115) [].toArray [].toArray) (SF1 (Va encIPlace) Value.bool (m115)) := ⟨115, [], [], rfl, C115, fun w_ K_ args_ v_ hK hw hs => by obtain ⟨u0_, x0_, r_, rfl, h0_, hx, rfl⟩ := hs; cases h0_; exact w115  x0_ rfl  hx⟩
        exact w114 hH (hl9.mono (Flat.mono _) (le.at 1 rfl)) (right := (m115)) hf65 hx67) ?_
      refine pt hb63 rfl rfl (m1 rfl ?_)
      rcases Bool.eq_false_or_eq_true (r66) with hb69 | hb69
      ·have hr70 := if_p hb69 hr68
       refine gN rfl rfl (hb69) (fb 3 U86 rfl rfl rfl rfl Z84 (gN rfl rfl (hb69) (ld G84 rfl rfl ((sS 0 rfl hK12).drop 3) rfl (gN rfl rfl (hb69) ?_))))
       obtain ⟨r72, hx73, hr74⟩ := bd_some hr70
       refine clS (v := .bool r72) C116 rfl rfl rfl rfl (fun w H hH le => by
         have hf71 : FnV M Tryz.prog H (.func (.func 117) [].toArray [].toArray) (SF2 (Va encIPlace) (Va encIPlace) Value.bool (m117)) := ⟨117, [], [], rfl, C117, fun w_ K_ args_ v_ hK hw hs => by obtain ⟨u0_, u1_, x0_, x1_, r_, rfl, h0_, h1_, hx, rfl⟩ := hs; cases h0_; cases h1_; exact w117  x0_ rfl x1_ rfl  hx⟩
         exact w116 hH (hl9.mono (Flat.mono _) (le.at 1 rfl)) (before := (m117)) hf71 hx73) ?_
       refine pT rfl rfl (hb69) rfl (a1 rfl (on ?_))
       cases hr74
       exact cu ⟨rfl, tv⟩
      ·have hr75 := if_f hb69 hr68
       refine gF rfl rfl (hb69) rfl (gF rfl rfl (hb69) rfl (gF rfl rfl (hb69) rfl (pF rfl rfl (hb69) rfl (a1 rfl (on ?_)))))
       cases hr75
       exact cu ⟨rfl, tv⟩
     ·have hr76 := if_n hb63 hr62
      refine gf hb63 rfl (gf hb63 rfl (gf hb63 rfl (pf hb63 rfl rfl (m1 rfl (gF rfl rfl rfl rfl (gF rfl rfl rfl rfl (gF rfl rfl rfl rfl (pF rfl rfl rfl rfl (a1 rfl (on ?_))))))))))
      cases hr76
      exact cu ⟨rfl, tv⟩
    ·have hr77 := if_f hb61 hr60
     refine gF rfl rfl (hb61) rfl (gF rfl rfl (hb61) rfl (gF rfl rfl (hb61) rfl (gF rfl rfl (hb61) rfl (pF rfl rfl (hb61) rfl (m1 rfl (gF rfl rfl rfl rfl (gF rfl rfl rfl rfl (gF rfl rfl rfl rfl (pF rfl rfl rfl rfl (m1 rfl (gF rfl rfl rfl rfl ?_)))))))))))
     refine gF rfl rfl rfl rfl (gF rfl rfl rfl rfl (pF rfl rfl rfl rfl (a1 rfl (on ?_))))
     cases hr77
     exact cu ⟨rfl, tv⟩
   ·have hr78 := if_f hb56 hr55
    refine gF rfl rfl (hb56) rfl (gF rfl rfl (hb56) rfl (gF rfl rfl (hb56) rfl (gF rfl rfl (hb56) rfl (pF rfl rfl (hb56) rfl (m1 rfl (gF rfl rfl rfl rfl (gF rfl rfl rfl rfl (gF rfl rfl rfl rfl (gF rfl rfl rfl rfl (pF rfl rfl rfl rfl (m1 rfl ?_)))))))))))
    refine gF rfl rfl rfl rfl (gF rfl rfl rfl rfl (gF rfl rfl rfl rfl (pF rfl rfl rfl rfl (m1 rfl (gF rfl rfl rfl rfl (gF rfl rfl rfl rfl (gF rfl rfl rfl rfl (pF rfl rfl rfl rfl (a1 rfl (on ?_))))))))))
    cases hr78
    exact cu ⟨rfl, tv⟩
  ·have hr79 := if_f hb51 hr50
   refine gF rfl rfl (hb51) rfl (gF rfl rfl (hb51) rfl (gF rfl rfl (hb51) rfl (gF rfl rfl (hb51) rfl (pF rfl rfl (hb51) rfl (m1 rfl (gF rfl rfl rfl rfl (gF rfl rfl rfl rfl (gF rfl rfl rfl rfl (gF rfl rfl rfl rfl (pF rfl rfl rfl rfl (m1 rfl ?_)))))))))))
   refine gF rfl rfl rfl rfl (gF rfl rfl rfl rfl (gF rfl rfl rfl rfl (gF rfl rfl rfl rfl (pF rfl rfl rfl rfl (m1 rfl (gF rfl rfl rfl rfl (gF rfl rfl rfl rfl (gF rfl rfl rfl rfl (pF rfl rfl rfl rfl (m1 rfl (gF rfl rfl rfl rfl ?_)))))))))))
   refine gF rfl rfl rfl rfl (gF rfl rfl rfl rfl (pF rfl rfl rfl rfl (a1 rfl (on ?_))))
   cases hr79
   exact cu ⟨rfl, tv⟩
 ·rintro a w ⟨hS, hA⟩
  refine TG.ap ?_ hS hA
  refine rt_ ?_
  cases hr47
  intro a w hS hA
  refine ret1 hA rfl rfl ?_
  exact ⟨rfl, hS.ext⟩

theorem w118 {M : Prop} {W : World} {H : Hp} (hH : H.le (hp W)) {fv_yield : Value} {yield : Bytes → Option Bool} (h_yield : FnV M Tryz.prog H fv_yield (SF1 Vs Value.bool yield)) {q_f0_ : Addr} {cs_f0_ : List Value} (f0_ : Heading) (hc_f0_ : CellsAt H q_f0_ cs_f0_) (h_f0_ : (RHeading) H cs_f0_ f0_) {r : Unit} (hr : m118 yield f0_ = some r) : Calls Tryz.prog 118 [fv_yield, .pointer (some q_f0_)].toArray W (RetS M W (.tuple #[])) := by
 have hh_yield := h_yield
 obtain ⟨f_yield, fi_yield, ca_yield, rfl, _, _⟩ := h_yield
 have hh_f0_ := h_f0_
 obtain ⟨ad1, cap2, ad4, cap5, ad7, cap8, rfl, hl3, hl6, hl9⟩ := h_f0_
 have := hl3.len
 have := hl6.len
 have := hl9.len
 unfold m118 at hr
 refine enterG (M := M) Tryz.func118 rfl Tryz.ntmps118 rfl hH ?_
 refine sq (sq (rg (m1 rfl (fb 0 U86 rfl rfl rfl rfl Z9 (ld G9 rfl rfl ((sS 0 rfl hc_f0_).take 1) rfl ?_)))))
 obtain ⟨r10, hx11, hr12⟩ := bd_some hr
 refine clV (v := .bool r10) hh_yield 0 rfl rfl rfl rfl (fun H le => ⟨_, f0_.name, r10, rfl, rfl, hx11, rfl⟩) (nt rfl rfl (on ?_))
 refine cb rfl (fun hc16 => ?_) (fun hc16 => ?_)
 ·replace hc16 := nbt hc16
  have hr17 := if_f hc16 hr12
  refine rt_ ?_
  cases hr17
  intro a w hS hA
  refine ret0 hA rfl ?_
  exact ⟨rfl, hS.ext⟩
 ·replace hc16 := nbf hc16
  have hr18 := if_p hc16 hr12
  refine sk (sq (rg (fb 1 U86 rfl rfl rfl rfl Z77 (ld G77 rfl rfl (((sS 0 rfl hc_f0_).drop 1).take 1) rfl (lnL U77 rfl rfl (m1 rfl (on ?_)))))))
  obtain ⟨e37, hl38, hr39⟩ := bd_some hr18
  refine jn (fun a w => ∃ t40, e37 = .inl t40 ∧ St M W H [H] [] w ∧ Has [] 22 a []) ?_ ?_
  ·refine bk ?_
   refine lp hl38 (fun s41 a w => St M W H [H] [] w ∧ Has [] 22 a [(0, .func (.func f_yield) fi_yield.toArray ca_yield.toArray), (11, .slice ad1 f0_.variants.length cap2), (12, .int .i64 (f0_.variants.length : Int)), (13, .int .i64 (s41 : Int))]) ?_ ?_
   ·exact cu ⟨rfl, rfl, rfl, rfl, tv⟩
   ·rintro j s41 y44 hr42 hz43 a w ⟨hS, hA⟩
    refine TG.ap ?_ hS hA
    unfold m118_1 at hr42
    refine sq (rg (ltI rfl rfl rfl (on (sq ?_))))
    refine ci rfl (fun hc48 => ?_) (fun hc48 => ?_)
    ·have hr49 := if_p hc48 hr42
     refine sk (sq (bk (sq (rg ?_))))
     obtain ⟨x64, hx65, hr66⟩ := bd_some hr49
     obtain ⟨p67, rfl⟩ := hl3.adr hx65
     obtain ⟨cs68, hcs69, hq70, hr71⟩ := hl3.at hx65
     obtain rfl := hr71
     refine iaP U77 Z9 rfl rfl rfl rfl (lt_of hx65) (ld G9 rfl rfl (sS 0 rfl hq70) rfl (a1 rfl (on (sq (rg (m1 rfl (m1 rfl ?_)))))))
     obtain ⟨r72, hx73, hr74⟩ := bd_some hr66
     refine clV (v := .bool r72) hh_yield 0 rfl rfl rfl rfl (fun H le => ⟨_, x64, r72, rfl, rfl, hx73, rfl⟩) (nt rfl rfl (on ?_))
     refine cb rfl (fun hc78 => ?_) (fun hc78 => ?_)
     ·replace hc78 := nbt hc78
      have hr79 := if_f hc78 hr74
      refine rt_ ?_
      cases hr79
      obtain rfl := Fin.out hz43
      cases hr39
      intro a w hS hA
      refine ret0 hA rfl ?_
      exact ⟨rfl, hS.ext⟩
     ·replace hc78 := nbf hc78
      have hr80 := if_p hc78 hr74
      refine sk (rg (adI rfl rfl rfl (by omega) (m1 rfl (on ?_))))
      cases hr80
      intro a w hS hA
      exact ⟨_, hz43, hS, hA.cut ⟨rfl, rfl, rfl, rfl, tv⟩⟩
    ·have hr81 := if_n hc48 hr42
     refine xt rfl ?_
     cases hr81
     obtain rfl := Fin.out hz43
     intro a w hS hA
     exact ⟨_, rfl, hS, hA.cut tv⟩
  ·rintro a w ⟨t40, rfl, hS, hA⟩
   refine TG.ap ?_ hS hA
   cases hr39
   intro a w hS hA
   refine ret0 hA rfl ?_
   exact ⟨rfl, hS.ext⟩

theorem w76 {M : Prop} {W : World} {H : Hp} (hH : H.le (hp W)) (s_0 : Bytes) {q_f0_ : Addr} {mp_f0_ : Value} {f0_ : List (Bytes × Int)} (hc_f0_ : CellsAt H q_f0_ [mp_f0_]) (h_f0_ : Mp keS (Value.int .i64) H mp_f0_ f0_) {q_f1_ : Addr} {ad_f1_ : Option Addr} {cap_f1_ : Nat} {f1_ : List Heading} (hc_f1_ : CellsAt H q_f1_ [.slice ad_f1_ f1_.length cap_f1_]) (h_f1_ : Sl (RHeading) 4 H ad_f1_ cap_f1_ f1_) {q_f2_ : Addr} {cs_f2_ : List Value} (f2_ : Heading) (hc_f2_ : CellsAt H q_f2_ cs_f2_) (h_f2_ : (RHeading) H cs_f2_ f2_) {r : Bool} (hr : m76 s_0 f0_ f1_ f2_ = some r) : Calls Tryz.prog 76 [.string (bs s_0), .pointer (some q_f0_), .pointer (some q_f1_), .pointer (some q_f2_)].toArray W (RetS M W (.bool r)) := by
 have := h_f1_.len
 have hh_f2_ := h_f2_
 obtain ⟨ad1, cap2, ad4, cap5, ad7, cap8, rfl, hl3, hl6, hl9⟩ := h_f2_
 have := hl3.len
 have := hl6.len
 have := hl9.len
 unfold m76 at hr
 refine enterG (M := M) Tryz.func76 rfl Tryz.ntmps76 rfl hH ?_
 refine sq (rg (a1 rfl (on (sq (rg (ld G149 rfl rfl (sS 0 rfl hc_f0_) rfl (m1 rfl (lk2 (ke := keS) (enc := (Value.int .i64)) s_0 (z0 := (0 : Int)) U149 U9 Tryz.zeroValue3 rfl rfl rfl rfl (mS 0 rfl h_f0_) (m1 rfl (ex rfl rfl rfl (ex rfl rfl rfl ?_)))))))))))
 refine a1 rfl (a1 rfl (on (sq ?_)))
 obtain ⟨t36, hx37, hr38⟩ := bd_some hr
 refine jn (fun a w => St M W H [H] [] w ∧ Has [] 30 a [(5, .bool t36)]) ?_ ?_
 ·refine rg (m1 rfl (m1 rfl ?_))
  rcases Bool.eq_false_or_eq_true ((lkp f0_ s_0).isSome) with hb39 | hb39
  ·have hr40 := if_p hb39 hx37
   refine gN rfl rfl (hb39) (ld G79 rfl rfl (sS 0 rfl hc_f1_) rfl (gN rfl rfl (hb39) (m1 rfl (gN rfl rfl (hb39) ?_))))
   obtain ⟨hk41, hr42⟩ := chk_some hr40
   obtain ⟨x43, hx44, hr45⟩ := bd_some hr42
   obtain ⟨p46, rfl⟩ := h_f1_.adr hx44
   obtain ⟨cs47, hcs48, hq49, hr50⟩ := h_f1_.at hx44
   have hr51 := hr50
   obtain ⟨ad52, cap53, ad55, cap56, ad58, cap59, rfl, hl54, hl57, hl60⟩ := hr50
   have := hl54.len
   have := hl57.len
   have := hl60.len
   refine iaP U79 Z86 rfl rfl rfl (by omega) (lt_of hx44) (gN rfl rfl (hb39) (fb 0 U86 rfl rfl rfl rfl Z9 (gN rfl rfl (hb39) (ld G9 rfl rfl ((sS 0 rfl hq49).take 1) rfl (gN rfl rfl (hb39) (m1 rfl (gN rfl rfl (hb39) (eqS rfl rfl rfl (pT rfl rfl (hb39) rfl (m1 rfl ?_))))))))))
   by_cases hb61 : x43.name = s_0
   ·have hr62 := if_p hb61 hr45
    refine gt hb61 rfl (m1 rfl (gt hb61 rfl (fb 0 U86 rfl rfl rfl rfl Z9 (gt hb61 rfl (ld G9 rfl rfl ((sS 0 rfl hc_f2_).take 1) rfl (gt hb61 rfl (neS rfl rfl rfl (pt hb61 rfl rfl (a1 rfl (on ?_))))))))))
    cases hr62
    exact cu ⟨rfl, tv⟩
   ·have hr63 := if_n hb61 hr45
    refine gf hb61 rfl (gf hb61 rfl (gf hb61 rfl (gf hb61 rfl (pf hb61 rfl rfl (a1 rfl (on ?_))))))
    cases hr63
    exact cu ⟨rfl, tv⟩
  ·have hr64 := if_f hb39 hx37
   refine gF rfl rfl (hb39) rfl (gF rfl rfl (hb39) rfl (gF rfl rfl (hb39) rfl (gF rfl rfl (hb39) rfl (gF rfl rfl (hb39) rfl (gF rfl rfl (hb39) rfl (gF rfl rfl (hb39) rfl (pF rfl rfl (hb39) rfl (m1 rfl (gF rfl rfl rfl rfl (gF rfl rfl rfl rfl (gF rfl rfl rfl rfl ?_)))))))))))
   refine gF rfl rfl rfl rfl (pF rfl rfl rfl rfl (a1 rfl (on ?_)))
   cases hr64
   exact cu ⟨rfl, tv⟩
 ·rintro a w ⟨hS, hA⟩
  refine TG.ap ?_ hS hA
  refine rt_ ?_
  cases hr38
  intro a w hS hA
  refine ret1 hA rfl rfl ?_
  exact ⟨rfl, hS.ext⟩

theorem w74 {M : Prop} {W : World} {H : Hp} (hH : H.le (hp W)) {cs_h_0 : List Value} (h_0 : Heading) (h_h_0 : (RHeading) H cs_h_0 h_0) {q_f0_ : Addr} {mp_f0_ : Value} {f0_ : List (Bytes × Int)} (hc_f0_ : CellsAt H q_f0_ [mp_f0_]) (h_f0_ : Mp keS (Value.int .i64) H mp_f0_ f0_) {q_f1_ : Addr} {ad_f1_ : Option Addr} {cap_f1_ : Nat} {f1_ : List Heading} (hc_f1_ : CellsAt H q_f1_ [.slice ad_f1_ f1_.length cap_f1_]) (h_f1_ : Sl (RHeading) 4 H ad_f1_ cap_f1_ f1_) {r : Bool} (hr : m74 h_0 f0_ f1_ = some r) : Calls Tryz.prog 74 [.agg cs_h_0.toArray, .pointer (some q_f0_), .pointer (some q_f1_)].toArray W (RetS M W (.bool r)) := by
 have hh_h_0 := h_h_0
 obtain ⟨ad1, cap2, ad4, cap5, ad7, cap8, rfl, hl3, hl6, hl9⟩ := h_h_0
 have := hl3.len
 have := hl6.len
 have := hl9.len
 have := h_f1_.len
 unfold m74 at hr
 refine enterG (M := M) Tryz.func74 rfl Tryz.ntmps74 rfl hH ?_
 refine sq (rg (bI (cs := [.string (bs h_0.name), .slice ad1 h_0.variants.length cap2, .slice ad4 h_0.also.length cap5, .slice ad7 h_0.places.length cap8]) rfl rfl rfl fun q10 K11 hK12 => (a1 rfl (on (sq (rg (fb 2 U86 rfl rfl rfl rfl Z77 (ld G77 rfl rfl (((sS 0 rfl hK12).drop 2).take 1) rfl (fn rfl rfl rfl ?_)))))))))
 obtain ⟨r14, hx15, hr16⟩ := bd_some hr
 refine clS (v := .bool r14) C75 rfl rfl rfl rfl (fun w H hH le => by
   have hf13 : FnV M Tryz.prog H (.func (.func 76) [].toArray [.pointer (some q_f0_), .pointer (some q_f1_), .pointer (some q10)].toArray) (SF1 Vs Value.bool (fun x0_ => m76 x0_ f0_ f1_ h_0)) := ⟨76, [], [.pointer (some q_f0_), .pointer (some q_f1_), .pointer (some q10)], rfl, C76, fun w_ K_ args_ v_ hK hw hs => by obtain ⟨u0_, x0_, r_, rfl, h0_, hx, rfl⟩ := hs; cases h0_; exact w76 (H := K_) hw  x0_ (f0_ := f0_) (hc_f0_.mono ((le.at 1 rfl).trans hK)) (h_f0_.mono ((le.at 1 rfl).trans hK)) (f1_ := f1_) (hc_f1_.mono ((le.at 1 rfl).trans hK)) (h_f1_.mono (RHeading.mono) ((le.at 1 rfl).trans hK)) h_0 (hK12.mono ((le.at 0 rfl).trans hK)) ⟨_, _, _, _, _, _, rfl, (hl3.mono (Flat.mono _) ((le.at 1 rfl).trans hK)), (hl6.mono (Flat.mono _) ((le.at 1 rfl).trans hK)), (hl9.mono (Flat.mono _) ((le.at 1 rfl).trans hK))⟩ hx⟩
   exact w75 hH (hl6.mono (Flat.mono _) (le.at 1 rfl)) (right := (fun x0_ => m76 x0_ f0_ f1_ h_0)) hf13 hx15) ?_
 refine a1 rfl (on (rt_ ?_))
 cases hr16
 intro a w hS hA
 refine ret1 hA rfl rfl ?_
 exact ⟨rfl, hS.ext⟩

theorem w77 {M : Prop} {W : World} {H : Hp} (hH : H.le (hp W)) {ad_l_0 : Option Addr} {cap_l_0 : Nat} {l_0 : List Heading} (h_l_0 : Sl (RHeading) 4 H ad_l_0 cap_l_0 l_0) {fv_before : Value} {before : Heading → Heading → Option Bool} (h_before : FnV M Tryz.prog H fv_before (SF2 (Vr RHeading) (Vr RHeading) Value.bool before)) {r : Bool} (hr : m77 l_0 before = some r) : Calls Tryz.prog 77 [.slice ad_l_0 l_0.length cap_l_0, fv_before].toArray W (RetS M W (.bool r)) := by
 have := h_l_0.len
 have hh_before := h_before
 obtain ⟨f_before, fi_before, ca_before, rfl, _, _⟩ := h_before
 unfold m77 at hr
 refine enterG (M := M) Tryz.func77 rfl Tryz.ntmps77 rfl hH ?_
 refine sq (rg (a1 rfl (on (sq (sq (rg (m1 rfl (lnL U79 rfl rfl (m1 rfl (on ?_))))))))))
 obtain ⟨e52, hl53, hr54⟩ := bd_some hr
 refine jn (fun a w => ∃ t55, e52 = .inl t55 ∧ St M W H [H] [] w ∧ Has [] 28 a []) ?_ ?_
 ·refine bk ?_
  refine lp hl53 (fun s56 a w => St M W H [H] [] w ∧ Has [] 28 a [(0, .slice ad_l_0 l_0.length cap_l_0), (1, .func (.func f_before) fi_before.toArray ca_before.toArray), (7, .int .i64 (l_0.length : Int)), (8, .int .i64 (s56 : Int))]) ?_ ?_
  ·exact cu ⟨rfl, rfl, rfl, rfl, tv⟩
  ·rintro j s56 y59 hr57 hz58 a w ⟨hS, hA⟩
   refine TG.ap ?_ hS hA
   unfold m77_1 at hr57
   refine sq (rg (ltI rfl rfl rfl (on (sq ?_))))
   refine ci rfl (fun hc63 => ?_) (fun hc63 => ?_)
   ·have hr64 := if_p hc63 hr57
    refine sk (sq (bk (sq (rg (m1 rfl (a1 rfl (on (sq ?_))))))))
    obtain ⟨t155, hx156, hr157⟩ := bd_some hr64
    refine jn (fun a w => St M W H [H] [] w ∧ Has [] 28 a [(0, .slice ad_l_0 l_0.length cap_l_0), (1, .func (.func f_before) fi_before.toArray ca_before.toArray), (7, .int .i64 (l_0.length : Int)), (8, .int .i64 (s56 : Int)), (26, .bool t155)]) ?_ ?_
    ·by_cases hb158 : 0 < (s56 : Int)
     ·have hr159 := if_p hb158 hx156
      obtain ⟨x160, hx161, hr162⟩ := bd_some hr159
      obtain ⟨p163, rfl⟩ := h_l_0.adr hx161
      obtain ⟨cs164, hcs165, hq166, hr167⟩ := h_l_0.at hx161
      have hr168 := hr167
      obtain ⟨ad169, cap170, ad172, cap173, ad175, cap176, rfl, hl171, hl174, hl177⟩ := hr167
      have := hl171.len
      have := hl174.len
      have := hl177.len
      obtain ⟨x178, hx179, hr180⟩ := bd_some hr162
      obtain ⟨cs181, hcs182, hq183, hr184⟩ := h_l_0.at hx179
      have hr185 := hr184
      obtain ⟨ad186, cap187, ad189, cap190, ad192, cap193, rfl, hl188, hl191, hl194⟩ := hr184
      have := hl188.len
      have := hl191.len
      have := hl194.len
      refine drG 13 mixed (by kernel_rfl) rfl (dt rfl (m1 rfl fin1) (dt rfl (gtI rfl rfl rfl fin1) (dt rfl (m1 rfl fin1) (dt rfl (gt hb158 rfl (m1 rfl fin1)) (dt rfl (gt hb158 rfl (m1 rfl fin1)) (dt rfl (gt hb158 rfl (m1 rfl fin1)) (dt rfl (gt hb158 rfl (sbI rfl rfl rfl (by omega) fin1)) (dt rfl (gt hb158 rfl (iaP U79 Z86 rfl rfl rfl (by omega) (lt_of hx161) fin1)) (dt rfl (gt hb158 rfl (ldA G86 Z86 rfl rfl (sS 1 rfl hq166) rfl fin1)) (dt rfl (gt hb158 rfl (m1 rfl fin1)) (dt rfl (gt hb158 rfl (m1 rfl fin1)) ?_)))))))))))
      refine dt rfl (gt hb158 rfl (iaP U79 Z86 rfl rfl rfl rfl (lt_of hx179) fin1)) (dt rfl (gt hb158 rfl (ldA G86 Z86 rfl rfl (sS 1 rfl hq183) rfl fin1)) (DF.nil fun K195 hF => (gt hb158 rfl ?_)))
      obtain ⟨r196, hx197, hr198⟩ := bd_some hr180
      refine clV (v := .bool r196) hh_before 1 rfl rfl rfl rfl (fun H le => ⟨_, _, x160, x178, r196, rfl, ⟨_, rfl, (RHeading.mono _ _ _ _ (le.at 1 rfl) hr168)⟩, ⟨_, rfl, (RHeading.mono _ _ _ _ (le.at 1 rfl) hr185)⟩, hx197, rfl⟩) (gt hb158 rfl (nt rfl rfl (pt hb158 rfl rfl (on ?_))))
      cases hr198
      intro a w hS hA
      exact ⟨hS.selH [1] rfl, hA.cut ⟨rfl, rfl, rfl, rfl, rfl, tv⟩⟩
     ·have hr199 := if_n hb158 hx156
      refine drG 13 mixed (by kernel_rfl) rfl (dt rfl (m1 rfl fin1) (dt rfl (gtI rfl rfl rfl fin1) (dt rfl (m1 rfl fin1) (dt rfl (gf hb158 rfl fin1) (dt rfl (gf hb158 rfl fin1) (dt rfl (gf hb158 rfl fin1) (dt rfl (gf hb158 rfl fin1) (dt rfl (gf hb158 rfl fin1) (dt rfl (gf hb158 rfl fin1) (dt rfl (gf hb158 rfl fin1) (dt rfl (gf hb158 rfl fin1) ?_)))))))))))
      refine dt rfl (gf hb158 rfl fin1) (dt rfl (gf hb158 rfl fin1) (DF.nil fun K200 hF => (gf hb158 rfl (gf hb158 rfl (pf hb158 rfl rfl (on ?_))))))
      cases hr199
      intro a w hS hA
      exact ⟨hS.selH [1] rfl, hA.cut ⟨rfl, rfl, rfl, rfl, rfl, tv⟩⟩
    ·rintro a w ⟨hS, hA⟩
     refine TG.ap ?_ hS hA
     refine cb rfl (fun hc204 => ?_) (fun hc204 => ?_)
     ·have hr205 := if_p hc204 hr157
      refine sq (rg (a1 rfl (on (rt_ ?_))))
      cases hr205
      obtain rfl := Fin.out hz58
      cases hr54
      intro a w hS hA
      refine ret1 hA rfl rfl ?_
      exact ⟨rfl, hS.ext⟩
     ·have hr206 := if_f hc204 hr157
      refine sk (rg (adI rfl rfl rfl (by omega) (m1 rfl (on ?_))))
      cases hr206
      intro a w hS hA
      exact ⟨_, hz58, hS, hA.cut ⟨rfl, rfl, rfl, rfl, tv⟩⟩
   ·have hr207 := if_n hc63 hr57
    refine xt rfl ?_
    cases hr207
    obtain rfl := Fin.out hz58
    intro a w hS hA
    exact ⟨_, rfl, hS, hA.cut tv⟩
 ·rintro a w ⟨t55, rfl, hS, hA⟩
  refine TG.ap ?_ hS hA
  refine sq (rg (a1 rfl (on (rt_ ?_))))
  cases hr54
  intro a w hS hA
  refine ret1 hA rfl rfl ?_
  exact ⟨rfl, hS.ext⟩

theorem w78 {M : Prop} {W : World} {H : Hp} (hH : H.le (hp W)) {cs_a_0 : List Value} (a_0 : Heading) (h_a_0 : (RHeading) H cs_a_0 a_0) {cs_b_1 : List Value} (b_1 : Heading) (h_b_1 : (RHeading) H cs_b_1 b_1) {r : Bool} (hr : m78 a_0 b_1 = some r) : Calls Tryz.prog 78 [.agg cs_a_0.toArray, .agg cs_b_1.toArray].toArray W (RetS M W (.bool r)) := by
 have hh_a_0 := h_a_0
 obtain ⟨ad1, cap2, ad4, cap5, ad7, cap8, rfl, hl3, hl6, hl9⟩ := h_a_0
 have := hl3.len
 have := hl6.len
 have := hl9.len
 have hh_b_1 := h_b_1
 obtain ⟨ad10, cap11, ad13, cap14, ad16, cap17, rfl, hl12, hl15, hl18⟩ := h_b_1
 have := hl12.len
 have := hl15.len
 have := hl18.len
 unfold m78 at hr
 refine enterG (M := M) Tryz.func78 rfl Tryz.ntmps78 rfl hH ?_
 refine sq (rg (bI (cs := [.string (bs a_0.name), .slice ad1 a_0.variants.length cap2, .slice ad4 a_0.also.length cap5, .slice ad7 a_0.places.length cap8]) rfl rfl rfl fun q19 K20 hK21 => (bI (cs := [.string (bs b_1.name), .slice ad10 b_1.variants.length cap11, .slice ad13 b_1.also.length cap14, .slice ad16 b_1.places.length cap17]) rfl rfl rfl fun q22 K23 hK24 => (a1 rfl (on (sq (rg (fb 0 U86 rfl rfl rfl rfl Z9 (ld G9 rfl rfl ((sS 1 rfl hK21).take 1) rfl (fb 0 U86 rfl rfl rfl rfl Z9 (ld G9 rfl rfl ((sS 0 rfl hK24).take 1) rfl ?_)))))))))))
 obtain ⟨r25, hx26, hr27⟩ := bd_some hr
 refine clS C79 rfl rfl rfl rfl (fun w H hH le => w79 a_0.name b_1.name hx26) (a1 rfl (on (rt_ ?_)))
 cases hr27
 intro a w hS hA
 refine ret1 hA rfl rfl ?_
 exact ⟨rfl, hS.ext⟩

theorem w47 {M : Prop} {W : World} {H : Hp} (hH : H.le (hp W)) (hg : Gv M H) {ad_l_0 : Option Addr} {cap_l_0 : Nat} {l_0 : List Heading} (h_l_0 : Sl (RHeading) 4 H ad_l_0 cap_l_0 l_0) {r : (List (Bytes × Int)) × Int} (hr : m47 l_0 = some r) : Calls Tryz.prog 47 [.slice ad_l_0 l_0.length cap_l_0].toArray W (RetK M H W (fun v K => ∃ (mp0 : Value), v = .tuple [mp0, .int .i64 r.2].toArray ∧ Mp keS (Value.int .i64) K mp0 r.1)) := by
 have := h_l_0.len
 unfold m47 at hr
 refine enterGM (M := M) Tryz.func47 rfl Tryz.ntmps47 rfl hH ?_
 refine sq (rg (bI (cs := [.slice ad_l_0 l_0.length cap_l_0]) rfl rfl rfl fun q1 K2 hK3 => (al 1 (cs := [.map none]) Tryz.zeroValue149 rfl rfl fun b4 => (al 2 (cs := [.int .i64 0]) Tryz.zeroValue37 rfl rfl fun b5 => (on (sq (bk (sq (rg (ld G79 rfl rfl (sS 0 rfl hK3) rfl (lnL U79 rfl rfl ?_)))))))))))
 refine gtI rfl rfl rfl (a1 rfl (on ?_))
 refine ci rfl (fun hc26 => ?_) (fun hc26 => ?_)
 ·have hr27 := if_p hc26 hr
  refine sq (rg (sto 1 (cs := [.map none]) Z149 rfl rfl rfl rfl rfl rfl rfl (sto 2 (cs := [.int .i64 3]) Z37 rfl rfl rfl rfl rfl rfl rfl (on (rt_ ?_)))))
  cases hr27
  refine rtM (rt0 ?_)
  intro a w hS hA
  refine rc2 hA rfl (ResAt.cell rfl (loads1 G149 (cell_at (hS.get (t := 1) rfl)) rfl)) (ResAt.cell rfl (loads1 G37 (cell_at (hS.get (t := 2) rfl)) rfl)) ?_
  exact ⟨⟨_, rfl, Mp.nil⟩, hS.ext⟩
 ·have hr28 := if_n hc26 hr
  refine sq (rg (ld G79 rfl rfl (sS 0 rfl hK3) rfl ?_))
  obtain ⟨r30, hx31, hr32⟩ := bd_some hr28
  refine clS (v := .bool r30) C71 rfl rfl rfl rfl (fun w H hH le => by
    have hf29 : FnV M Tryz.prog H (.func (.func 72) [].toArray [].toArray) (SF1 (Vr RHeading) Value.bool (m72)) := ⟨72, [], [], rfl, C72, fun w_ K_ args_ v_ hK hw hs => by obtain ⟨u0_, x0_, r_, rfl, h0_, hx, rfl⟩ := hs; obtain ⟨_, rfl, h0_⟩ := h0_; exact w72 (H := K_) hw (hg.mono ((le.at 1 rfl).trans hK))  x0_ h0_  hx⟩
    exact w71 hH (h_l_0.mono (RHeading.mono) (le.at 1 rfl)) (right := (m72)) hf29 hx31) ?_
  refine nt rfl rfl (a1 rfl (on ?_))
  refine cb rfl (fun hc36 => ?_) (fun hc36 => ?_)
  ·replace hc36 := nbt hc36
   have hr37 := if_f hc36 hr32
   refine sq (rg (sto 1 (cs := [.map none]) Z149 rfl rfl rfl rfl rfl rfl rfl (sto 2 (cs := [.int .i64 1]) Z37 rfl rfl rfl rfl rfl rfl rfl (on (rt_ ?_)))))
   cases hr37
   refine rtM (rt0 ?_)
   intro a w hS hA
   refine rc2 hA rfl (ResAt.cell rfl (loads1 G149 (cell_at (hS.get (t := 1) rfl)) rfl)) (ResAt.cell rfl (loads1 G37 (cell_at (hS.get (t := 2) rfl)) rfl)) ?_
   exact ⟨⟨_, rfl, Mp.nil⟩, hS.ext⟩
  ·replace hc36 := nbf hc36
   have hr38 := if_p hc36 hr32
   refine sk (sq (rg (mkM 3 keS (Value.int .i64) rfl fun b39 => (al 4 (cs := [.map none]) Tryz.zeroValue149 rfl rfl fun b40 => (sto 4 (cs := [.map (some b39)]) Z149 rfl rfl rfl rfl rfl rfl rfl (on (sq (sq (rg (ld G79 rfl rfl (sS 0 rfl hK3) rfl (lnL U79 rfl rfl ?_)))))))))))
   refine m1 rfl (on ?_)
   obtain ⟨e218, hl219, hr220⟩ := bd_some hr38
   refine jn (fun a w => ∃ t221, e218 = .inl t221 ∧ ∃ (bs222 : List Nat), St M W H [K2, H] ([(4, cel b40 149 [.map (some b39)]), (3, Own.map' keS (Value.int .i64) b39 t221), (2, cel b5 37 [.int .i64 0]), (1, cel b4 149 [.map none])] ++ MK bs222) w ∧ Has (bs222.map mk1) 52 a [(1, .pointer (some q1)), (2, .pointer (some (⟨b4, 0, none⟩))), (3, .pointer (some (⟨b5, 0, none⟩))), (4, .pointer (some (⟨b40, 0, none⟩)))]) ?_ ?_
   ·refine bk ?_
    refine lp hl219 (fun s223 a w => ∃ (bs224 : List Nat), St M W H [K2, H] ([(4, cel b40 149 [.map (some b39)]), (3, Own.map' keS (Value.int .i64) b39 s223.2), (2, cel b5 37 [.int .i64 0]), (1, cel b4 149 [.map none])] ++ MK bs224) w ∧ Has (bs224.map mk1) 52 a [(1, .pointer (some q1)), (2, .pointer (some (⟨b4, 0, none⟩))), (3, .pointer (some (⟨b5, 0, none⟩))), (4, .pointer (some (⟨b40, 0, none⟩))), (20, .slice ad_l_0 l_0.length cap_l_0), (21, .int .i64 (l_0.length : Int)), (22, .int .i64 (s223.1 : Int))]) ?_ ?_
    ·intro a w hS hA
     exact ⟨[], hS, hA.cut ⟨rfl, rfl, rfl, rfl, rfl, rfl, rfl, tv⟩⟩
    ·rintro j s223 y227 hr225 hz226 a w ⟨bs224, hS, hA⟩
     refine TG.ap ?_ hS hA
     unfold m47_1 at hr225
     refine sq (rg (ltI rfl rfl rfl (on (sq ?_))))
     refine ci rfl (fun hc231 => ?_) (fun hc231 => ?_)
     ·have hr232 := if_p hc231 hr225
      refine sk (sq (bk (sq (rg (m1 rfl ?_)))))
      obtain ⟨x316, hx317, hr318⟩ := bd_some hr232
      obtain ⟨p319, rfl⟩ := h_l_0.adr hx317
      obtain ⟨cs320, hcs321, hq322, hr323⟩ := h_l_0.at hx317
      have hr324 := hr323
      obtain ⟨ad325, cap326, ad328, cap329, ad331, cap332, rfl, hl327, hl330, hl333⟩ := hr323
      have := hl327.len
      have := hl330.len
      have := hl333.len
      refine iaP U79 Z86 rfl rfl rfl rfl (lt_of hx317) (ldA G86 Z86 rfl rfl (sS 1 rfl hq322) rfl (al 5 (cs := [.int .i64 0]) Tryz.zeroValue3 rfl rfl fun b334 => (al 6 (cs := [.string (bs []), .slice none 0 0, .slice none 0 0, .slice none 0 0]) Tryz.zeroValue86 rfl rfl fun b335 => (sto 5 (cs := [.int .i64 (s223.1 : Int)]) Z3 rfl rfl rfl rfl rfl rfl rfl (sto 6 (cs := [.string (bs x316.name), .slice ad325 x316.variants.length cap326, .slice ad328 x316.also.length cap329, .slice ad331 x316.places.length cap332]) Z86 rfl rfl rfl rfl rfl rfl rfl (on (sq (rg (ldA G86 Z86 rfl rfl (sO 6 rfl) rfl (clT C73 Tryz.func73 rfl Tryz.ntmps73 rfl rfl rfl rfl (sq ?_)))))))))))
      refine rg (bI (cs := [.string (bs x316.name), .slice ad325 x316.variants.length cap326, .slice ad328 x316.also.length cap329, .slice ad331 x316.places.length cap332]) rfl rfl rfl fun q339 K340 hK341 => (a1 rfl (on (sq (rg (fn rfl rfl rfl (a1 rfl (on (rt_ ?_)))))))))
      intro a w hS hA
      refine ret1 hA rfl rfl ?_
      refine ⟨_, rfl, fun a hA => ?_⟩
      refine putK rfl hA hS (on (bk ?_))
      obtain ⟨t457, hx458, hr459⟩ := bd_some hr318
      refine rfO 7 8 C118 Tryz.func118 rfl Tryz.ntmps118 rfl rfl (fun l402 dB403 O405 w => (∃ (t460 : Nat × (List (Bytes × Int))), t457 = (.inl t460) ∧ St M W H [K340, K2, H] ([(7, Own.blk l402 (O405 .done (some .ret))), (8, Own.blk dB403 (.deferred (some []))), (6, cel b335 86 [.string (bs x316.name), .slice ad325 x316.variants.length cap326, .slice ad328 x316.also.length cap329, .slice ad331 x316.places.length cap332]), (5, cel b334 3 [.int .i64 (s223.1 : Int)]), (4, cel b40 149 [.map (some b39)]), (3, Own.map' keS (Value.int .i64) b39 t460.2), (2, cel b5 37 [.int .i64 (t460.1 : Int)]), (1, cel b4 149 [.map none])] ++ MK bs224) w) ∨ (∃ (t461 : (List (Bytes × Int))), t457 = (.inr t461) ∧ St M W H [K340, K2, H] ([(7, Own.blk l402 (O405 .ready none)), (8, Own.blk dB403 (.deferred (some []))), (6, cel b335 86 [.string (bs x316.name), .slice ad325 x316.variants.length cap326, .slice ad328 x316.also.length cap329, .slice ad331 x316.places.length cap332]), (5, cel b334 3 [.int .i64 (s223.1 : Int)]), (4, cel b40 149 [.map (some b39)]), (3, Own.map' keS (Value.int .i64) b39 t461), (2, cel b5 37 [.int .i64 0]), (1, cel b4 149 [.map none])] ++ MK bs224) w)) ?_ ?_
      ·intro l402 dB403 O405 tm404 hT406 hO407
       refine sq (sq (rg (m1 rfl (fb 0 U86 rfl rfl rfl rfl Z9 (ld G9 rfl rfl ((sS 0 rfl hK341).take 1) rfl ?_)))))
       obtain ⟨t465, hx466, hr467⟩ := bd_some hx458
       refine yl 7 [] (L1 := (29, .string (bs x316.name)) :: _) rfl rfl rfl hT406 hO407 rfl rfl rfl (fun v w => (∃ (t468 : Nat), t465 = (.inl t468) ∧ v = .bool false ∧ St M W H [K340, K2, H] ([(7, Own.blk l402 (O405 .done (some .ret))), (8, Own.blk dB403 (.deferred (some []))), (6, cel b335 86 [.string (bs x316.name), .slice ad325 x316.variants.length cap326, .slice ad328 x316.also.length cap329, .slice ad331 x316.places.length cap332]), (5, cel b334 3 [.int .i64 (s223.1 : Int)]), (4, cel b40 149 [.map (some b39)]), (3, Own.map' keS (Value.int .i64) b39 s223.2), (2, cel b5 37 [.int .i64 (t468 : Int)]), (1, cel b4 149 [.map none])] ++ MK bs224) w) ∨ (∃ (t469 : (List (Bytes × Int))), t465 = (.inr t469) ∧ v = .bool true ∧ St M W H [K340, K2, H] ([(7, Own.blk l402 (O405 .ready none)), (8, Own.blk dB403 (.deferred (some []))), (6, cel b335 86 [.string (bs x316.name), .slice ad325 x316.variants.length cap326, .slice ad328 x316.also.length cap329, .slice ad331 x316.places.length cap332]), (5, cel b334 3 [.int .i64 (s223.1 : Int)]), (4, cel b40 149 [.map (some b39)]), (3, Own.map' keS (Value.int .i64) b39 t469), (2, cel b5 37 [.int .i64 0]), (1, cel b4 149 [.map none])] ++ MK bs224) w)) ?_ ?_
       ·refine rg (a1 rfl (on (bR 7 hO407 rfl (bk (sq (sq (rg (ld G149 rfl rfl (sO 4 rfl) rfl (m1 rfl (lk2 (ke := keS) (enc := (Value.int .i64)) x316.name (z0 := (0 : Int)) U149 U9 Tryz.zeroValue3 rfl rfl rfl rfl (mO 3 rfl) (m1 rfl ?_)))))))))))
        refine ex rfl rfl rfl (ex rfl rfl rfl (a1 rfl (a1 rfl (on (sq (rg (m1 rfl (on ?_))))))))
        refine cb rfl (fun hc476 => ?_) (fun hc476 => ?_)
        ·have hr477 := if_p hc476 hx466
         refine sq (rg (sto 1 (cs := [.map none]) Z149 rfl rfl rfl rfl rfl rfl rfl (sto 2 (cs := [.int .i64 6]) Z37 rfl rfl rfl rfl rfl rfl rfl (on (rt_ ?_)))))
         cases hr477
         refine eR 7 (some .ret) hO407 rfl fun w hS => ?_
         exact .inl ⟨_, rfl, rfl, hS⟩
        ·have hr478 := if_f hc476 hx466
         refine sk (rg (ld G149 rfl rfl (sO 4 rfl) rfl (m1 rfl (ld G3 rfl rfl (sO 5 rfl) rfl (mpU 3 (ke := keS) (enc := (Value.int .i64)) x316.name (s223.1 : Int) U149 U9 rfl rfl rfl rfl (on ?_))))))
         cases hr478
         refine eR 7 none hO407 rfl fun w hS => ?_
         exact .inr (⟨_, rfl, rfl, hS⟩)
       ·rintro a w v hA (⟨t468, rfl, rfl, hS⟩ | ⟨t469, rfl, rfl, hS⟩)
        ·refine putK rfl hA hS (nt rfl rfl (on (cT rfl rfl (rt_ ?_))))
         cases hr467
         intro a w hS hA
         refine ret0 hA rfl ?_
         exact ⟨_, rfl, .inl ⟨_, rfl, hS⟩⟩
        ·refine putK rfl hA hS (nt rfl rfl (on (cF rfl rfl (sk (sq (rg (fb 1 U86 rfl rfl rfl rfl Z77 (ld G77 rfl rfl (((sS 0 rfl hK341).drop 1).take 1) rfl (lnL U77 rfl rfl (m1 rfl (on ?_)))))))))))
         obtain ⟨e519, hl520, hr521⟩ := bd_some hr467
         refine jn (fun a w => ∃ t522, e519 = .inl t522 ∧ St M W H [K340, K2, H] ([(7, Own.blk l402 (O405 .ready none)), (8, Own.blk dB403 (.deferred (some []))), (6, cel b335 86 [.string (bs x316.name), .slice ad325 x316.variants.length cap326, .slice ad328 x316.also.length cap329, .slice ad331 x316.places.length cap332]), (5, cel b334 3 [.int .i64 (s223.1 : Int)]), (4, cel b40 149 [.map (some b39)]), (3, Own.map' keS (Value.int .i64) b39 t522), (2, cel b5 37 [.int .i64 0]), (1, cel b4 149 [.map none])] ++ MK bs224) w ∧ Has [] 22 a []) ?_ ?_
         ·refine bk ?_
          refine lp hl520 (fun s523 a w => St M W H [K340, K2, H] ([(7, Own.blk l402 (O405 .ready none)), (8, Own.blk dB403 (.deferred (some []))), (6, cel b335 86 [.string (bs x316.name), .slice ad325 x316.variants.length cap326, .slice ad328 x316.also.length cap329, .slice ad331 x316.places.length cap332]), (5, cel b334 3 [.int .i64 (s223.1 : Int)]), (4, cel b40 149 [.map (some b39)]), (3, Own.map' keS (Value.int .i64) b39 s523.2), (2, cel b5 37 [.int .i64 0]), (1, cel b4 149 [.map none])] ++ MK bs224) w ∧ Has [] 22 a [(0, .func (.yield l402) #[] #[]), (11, .slice ad325 x316.variants.length cap326), (12, .int .i64 (x316.variants.length : Int)), (13, .int .i64 (s523.1 : Int))]) ?_ ?_
          ·exact cu ⟨rfl, rfl, rfl, rfl, tv⟩
          ·rintro j s523 y526 hr524 hz525 a w ⟨hS, hA⟩
           refine TG.ap ?_ hS hA
           unfold m47_2 at hr524
           refine sq (rg (ltI rfl rfl rfl (on (sq ?_))))
           refine ci rfl (fun hc530 => ?_) (fun hc530 => ?_)
           ·have hr531 := if_p hc530 hr524
            refine sk (sq (bk (sq (rg ?_))))
            obtain ⟨x548, hx549, hr550⟩ := bd_some hr531
            obtain ⟨p551, rfl⟩ := hl327.adr hx549
            obtain ⟨cs552, hcs553, hq554, hr555⟩ := hl327.at hx549
            obtain rfl := hr555
            refine iaP U77 Z9 rfl rfl rfl rfl (lt_of hx549) (ld G9 rfl rfl (sS 2 rfl hq554) rfl (a1 rfl (on (sq (rg (m1 rfl (m1 rfl ?_)))))))
            obtain ⟨t559, hx560, hr561⟩ := bd_some hr550
            refine yl 7 [] (L1 := (29, .string (bs x548)) :: _) rfl rfl rfl hT406 hO407 rfl rfl rfl (fun v w => (∃ (t562 : Nat), t559 = (.inl t562) ∧ v = .bool false ∧ St M W H [K340, K2, H] ([(7, Own.blk l402 (O405 .done (some .ret))), (8, Own.blk dB403 (.deferred (some []))), (6, cel b335 86 [.string (bs x316.name), .slice (some p551) x316.variants.length cap326, .slice ad328 x316.also.length cap329, .slice ad331 x316.places.length cap332]), (5, cel b334 3 [.int .i64 (s223.1 : Int)]), (4, cel b40 149 [.map (some b39)]), (3, Own.map' keS (Value.int .i64) b39 s523.2), (2, cel b5 37 [.int .i64 (t562 : Int)]), (1, cel b4 149 [.map none])] ++ MK bs224) w) ∨ (∃ (t563 : (List (Bytes × Int))), t559 = (.inr t563) ∧ v = .bool true ∧ St M W H [K340, K2, H] ([(7, Own.blk l402 (O405 .ready none)), (8, Own.blk dB403 (.deferred (some []))), (6, cel b335 86 [.string (bs x316.name), .slice (some p551) x316.variants.length cap326, .slice ad328 x316.also.length cap329, .slice ad331 x316.places.length cap332]), (5, cel b334 3 [.int .i64 (s223.1 : Int)]), (4, cel b40 149 [.map (some b39)]), (3, Own.map' keS (Value.int .i64) b39 t563), (2, cel b5 37 [.int .i64 0]), (1, cel b4 149 [.map none])] ++ MK bs224) w)) ?_ ?_
            ·refine rg (a1 rfl (on (bR 7 hO407 rfl (bk (sq (sq (rg (ld G149 rfl rfl (sO 4 rfl) rfl (m1 rfl (lk2 (ke := keS) (enc := (Value.int .i64)) x548 (z0 := (0 : Int)) U149 U9 Tryz.zeroValue3 rfl rfl rfl rfl (mO 3 rfl) (m1 rfl ?_)))))))))))
             refine ex rfl rfl rfl (ex rfl rfl rfl (a1 rfl (a1 rfl (on (sq (rg (m1 rfl (on ?_))))))))
             refine cb rfl (fun hc570 => ?_) (fun hc570 => ?_)
             ·have hr571 := if_p hc570 hx560
              refine sq (rg (sto 1 (cs := [.map none]) Z149 rfl rfl rfl rfl rfl rfl rfl (sto 2 (cs := [.int .i64 6]) Z37 rfl rfl rfl rfl rfl rfl rfl (on (rt_ ?_)))))
              cases hr571
              refine eR 7 (some .ret) hO407 rfl fun w hS => ?_
              exact .inl ⟨_, rfl, rfl, hS⟩
             ·have hr572 := if_f hc570 hx560
              refine sk (rg (ld G149 rfl rfl (sO 4 rfl) rfl (m1 rfl (ld G3 rfl rfl (sO 5 rfl) rfl (mpU 3 (ke := keS) (enc := (Value.int .i64)) x548 (s223.1 : Int) U149 U9 rfl rfl rfl rfl (on ?_))))))
              cases hr572
              refine eR 7 none hO407 rfl fun w hS => ?_
              exact .inr (⟨_, rfl, rfl, hS⟩)
            ·rintro a w v hA (⟨t562, rfl, rfl, hS⟩ | ⟨t563, rfl, rfl, hS⟩)
             ·refine putK rfl hA hS (nt rfl rfl (on (cT rfl rfl (rt_ ?_))))
              cases hr561
              obtain rfl := Fin.out hz525
              cases hr521
              intro a w hS hA
              refine ret0 hA rfl ?_
              exact ⟨_, rfl, .inl ⟨_, rfl, hS⟩⟩
             ·refine putK rfl hA hS (nt rfl rfl (on (cF rfl rfl (sk (rg (adI rfl rfl rfl (by omega) (m1 rfl (on ?_))))))))
              cases hr561
              intro a w hS hA
              exact ⟨_, hz525, hS, hA.cut ⟨rfl, rfl, rfl, rfl, tv⟩⟩
           ·have hr573 := if_n hc530 hr524
            refine xt rfl ?_
            cases hr573
            obtain rfl := Fin.out hz525
            intro a w hS hA
            exact ⟨_, rfl, hS, hA.cut tv⟩
         ·rintro a w ⟨t522, rfl, hS, hA⟩
          refine TG.ap ?_ hS hA
          cases hr521
          intro a w hS hA
          refine ret0 hA rfl ?_
          exact ⟨_, rfl, .inr (⟨_, rfl, hS⟩)⟩
      ·rintro l402 dB403 O405 tm404 a w hO407 hA (⟨t460, rfl, hS⟩ | ⟨t461, rfl, hS⟩)
       ·refine TG.ap ?_ hS hA
        refine elC 7 hO407 rfl (rt_ ?_)
        cases hr459
        obtain rfl := Fin.out hz226
        cases hr220
        refine TG.absM (A := [(8, Own.blk dB403 (.deferred (some []))), (6, cel b335 86 [.string (bs x316.name), .slice ad325 x316.variants.length cap326, .slice ad328 x316.also.length cap329, .slice ad331 x316.places.length cap332]), (5, cel b334 3 [.int .i64 (s223.1 : Int)]), (4, cel b40 149 [.map (some b39)]), (3, Own.map' keS (Value.int .i64) b39 t460.2), (2, cel b5 37 [.int .i64 (t460.1 : Int)]), (1, cel b4 149 [.map none])]) (bs := bs224) 8 rfl rfl (rtM (rtMs (A := [(6, cel b335 86 [.string (bs x316.name), .slice ad325 x316.variants.length cap326, .slice ad328 x316.also.length cap329, .slice ad331 x316.places.length cap332]), (5, cel b334 3 [.int .i64 (s223.1 : Int)]), (4, cel b40 149 [.map (some b39)]), (3, Own.map' keS (Value.int .i64) b39 t460.2), (2, cel b5 37 [.int .i64 (t460.1 : Int)]), (1, cel b4 149 [.map none])]) (bs := (dB403 :: bs224)) (rt0 ?_)))
        intro a w hS hA
        refine rc2 hA rfl (ResAt.cell rfl (loads1 G149 (cell_at (hS.get (t := 1) rfl)) rfl)) (ResAt.cell rfl (loads1 G37 (cell_at (hS.get (t := 2) rfl)) rfl)) ?_
        exact ⟨⟨_, rfl, Mp.nil⟩, hS.ext⟩
       ·refine TG.ap ?_ hS hA
        refine elN 7 hO407 rfl (rg (adI rfl rfl rfl (by omega) (m1 rfl (on (TG.absM (A := [(8, Own.blk dB403 (.deferred (some []))), (6, cel b335 86 [.string (bs x316.name), .slice ad325 x316.variants.length cap326, .slice ad328 x316.also.length cap329, .slice ad331 x316.places.length cap332]), (5, cel b334 3 [.int .i64 (s223.1 : Int)]), (4, cel b40 149 [.map (some b39)]), (3, Own.map' keS (Value.int .i64) b39 t461), (2, cel b5 37 [.int .i64 0]), (1, cel b4 149 [.map none])]) (bs := bs224) 8 rfl rfl (TG.del 6 (TG.del 5 ?_)))))))
        cases hr459
        intro a w hS hA
        exact ⟨_, hz226, (dB403 :: bs224), hS.selH [1, 2] rfl, hA.cut ⟨rfl, rfl, rfl, rfl, rfl, rfl, rfl, tv⟩⟩
     ·have hr574 := if_n hc231 hr225
      refine xt rfl ?_
      cases hr574
      obtain rfl := Fin.out hz226
      intro a w hS hA
      exact ⟨_, rfl, bs224, hS, hA.cut ⟨rfl, rfl, rfl, rfl, tv⟩⟩
   ·rintro a w ⟨t221, rfl, bs222, hS, hA⟩
    refine TG.ap ?_ hS hA
    refine sq (rg (fn rfl rfl rfl (a1 rfl (on (sq (sq ?_))))))
    obtain ⟨t586, hx587, hr588⟩ := bd_some hr220
    refine jn (fun a w => St M W H [K2, H] ([(4, cel b40 149 [.map (some b39)]), (3, Own.map' keS (Value.int .i64) b39 t221), (2, cel b5 37 [.int .i64 0]), (1, cel b4 149 [.map none])] ++ MK bs222) w ∧ Has (bs222.map mk1) 52 a [(2, .pointer (some (⟨b4, 0, none⟩))), (3, .pointer (some (⟨b5, 0, none⟩))), (4, .pointer (some (⟨b40, 0, none⟩))), (50, .bool t586)]) ?_ ?_
    ·refine rg (ld G79 rfl rfl (sS 0 rfl hK3) rfl (m1 rfl ?_))
     obtain ⟨r590, hx591, hr592⟩ := bd_some hx587
     refine clL (v := .bool r590) C71 rfl rfl rfl rfl (fun w hS => by
       have hf589 : FnV M Tryz.prog (hp w) (.func (.func 74) [].toArray [.pointer (some (⟨b40, 0, none⟩)), .pointer (some q1)].toArray) (SF1 (Vr RHeading) Value.bool (fun x0_ => m74 x0_ t221 l_0)) := ⟨74, [], [.pointer (some (⟨b40, 0, none⟩)), .pointer (some q1)], rfl, C74, fun w_ K_ args_ v_ hK hw hs => by obtain ⟨u0_, x0_, r_, rfl, h0_, hx, rfl⟩ := hs; obtain ⟨_, rfl, h0_⟩ := h0_; exact w74 (H := K_) hw  x0_ h0_ (f0_ := t221) ((cell_at (hS.get (t := 4) rfl)).mono hK) (Mp.mono (.inl ⟨_, rfl, hS.get (t := 3) rfl⟩) hK) (f1_ := l_0) (hK3.mono ((hS.hp 0 rfl).trans hK)) (h_l_0.mono (RHeading.mono) ((hS.hp 1 rfl).trans hK)) hx⟩
       exact w71 (Hp.le.refl (hp w)) (h_l_0.mono (RHeading.mono) (hS.hp 1 rfl)) (right := (fun x0_ => m74 x0_ t221 l_0)) hf589 hx591) ?_
     refine nt rfl rfl (m1 rfl ?_)
     rcases Bool.eq_false_or_eq_true (r590) with hb593 | hb593
     ·have hr594 := if_p hb593 hr592
      refine gN rfl rfl (congrArg not (hb593)) (ld G79 rfl rfl (sS 0 rfl hK3) rfl (gN rfl rfl (congrArg not (hb593)) ?_))
      obtain ⟨r596, hx597, hr598⟩ := bd_some hr594
      refine clS (v := .bool r596) C77 rfl rfl rfl rfl (fun w H hH le => by
        have hf595 : FnV M Tryz.prog H (.func (.func 78) [].toArray [].toArray) (SF2 (Vr RHeading) (Vr RHeading) Value.bool (m78)) := ⟨78, [], [], rfl, C78, fun w_ K_ args_ v_ hK hw hs => by obtain ⟨u0_, u1_, x0_, x1_, r_, rfl, h0_, h1_, hx, rfl⟩ := hs; obtain ⟨_, rfl, h0_⟩ := h0_; obtain ⟨_, rfl, h1_⟩ := h1_; exact w78 (H := K_) hw  x0_ h0_ x1_ h1_  hx⟩
        exact w77 hH (h_l_0.mono (RHeading.mono) (le.at 1 rfl)) (before := (m78)) hf595 hx597) ?_
      refine gN rfl rfl (congrArg not (hb593)) (nt rfl rfl (pF rfl rfl (congrArg not (hb593)) rfl (on ?_)))
      cases hr598
      exact cu ⟨rfl, rfl, rfl, rfl, tv⟩
     ·have hr599 := if_f hb593 hr592
      refine gF rfl rfl (congrArg not (hb593)) rfl (gF rfl rfl (congrArg not (hb593)) rfl (gF rfl rfl (congrArg not (hb593)) rfl (pT rfl rfl (congrArg not (hb593)) rfl (on ?_))))
      cases hr599
      exact cu ⟨rfl, rfl, rfl, rfl, tv⟩
    ·rintro a w ⟨hS, hA⟩
     refine TG.ap ?_ hS hA
     refine cb rfl (fun hc603 => ?_) (fun hc603 => ?_)
     ·have hr604 := if_p hc603 hr588
      refine sq (rg (sto 1 (cs := [.map none]) Z149 rfl rfl rfl rfl rfl rfl rfl (sto 2 (cs := [.int .i64 1]) Z37 rfl rfl rfl rfl rfl rfl rfl (on (rt_ ?_)))))
      cases hr604
      refine rtM (rtMs (A := [(4, cel b40 149 [.map (some b39)]), (3, Own.map' keS (Value.int .i64) b39 t221), (2, cel b5 37 [.int .i64 1]), (1, cel b4 149 [.map none])]) (bs := bs222) (rt0 ?_))
      intro a w hS hA
      refine rc2 hA rfl (ResAt.cell rfl (loads1 G149 (cell_at (hS.get (t := 1) rfl)) rfl)) (ResAt.cell rfl (loads1 G37 (cell_at (hS.get (t := 2) rfl)) rfl)) ?_
      exact ⟨⟨_, rfl, Mp.nil⟩, hS.ext⟩
     ·have hr605 := if_f hc603 hr588
      refine sk (sq (rg (ld G149 rfl rfl (sO 4 rfl) rfl (sto 1 (cs := [.map (some b39)]) Z149 rfl rfl rfl rfl rfl rfl rfl (sto 2 (cs := [.int .i64 0]) Z37 rfl rfl rfl rfl rfl rfl rfl (on (rt_ ?_)))))))
      cases hr605
      refine rtM (rtMs (A := [(4, cel b40 149 [.map (some b39)]), (3, Own.map' keS (Value.int .i64) b39 t221), (2, cel b5 37 [.int .i64 0]), (1, cel b4 149 [.map (some b39)])]) (bs := bs222) (rt0 ?_))
      intro a w hS hA
      refine rc2 hA rfl (ResAt.cell rfl (loads1 G149 (cell_at (hS.get (t := 1) rfl)) rfl)) (ResAt.cell rfl (loads1 G37 (cell_at (hS.get (t := 2) rfl)) rfl)) ?_
      exact ⟨⟨_, rfl, (hS.mapOut 3 rfl)⟩, hS.ext⟩

theorem w107 {M : Prop} {W : World} {H : Hp} (hH : H.le (hp W)) {ad_s_0 : Option Addr} {cap_s_0 : Nat} {s_0 : List Bytes} (h_s_0 : Sl (Flat encS) 1 H ad_s_0 cap_s_0 s_0) {r : List Bytes} (hr : m107 s_0 = some r) : Calls Tryz.prog 107 [.slice ad_s_0 s_0.length cap_s_0].toArray W (RetK M H W (fun v K => ∃ (ad0 : Option Addr) (cap0 : Nat), v = .slice ad0 r.length cap0 ∧ Sl (Flat encS) 1 K ad0 cap0 r)) := by
 have := h_s_0.len
 unfold m107 at hr
 refine enterG (M := M) Tryz.func107 rfl Tryz.ntmps107 rfl hH ?_
 refine sq (rg (a1 rfl (on (sq (sq (rg (m1 rfl (slN U77 rfl rfl (on ?_)))))))))
 refine cb rfl (fun hc3 => ?_) (fun hc3 => ?_)
 ·obtain rfl := Sl.isNil h_s_0 hc3
  have hr4 := (chk_some hr).2
  refine sq (rg (a1 rfl (on (rt_ ?_))))
  cases hr4
  intro a w hS hA
  refine ret1 hA rfl rfl ?_
  exact ⟨⟨_, _, rfl, (Sl.nil _ _ _ _ _ (by decide))⟩, hS.ext⟩
 ·refine sk (sq (rg (bSL 1 encS ([] : List Bytes) (cs := []) T10.E77 rfl rfl rfl rfl rfl rfl fun b5 => (m1 rfl ?_))))
  obtain ⟨hk6, hr7⟩ := chk_some hr
  have := lenA ([] : List Bytes) s_0
  refine apS 1 (enc := encS) (l := ([] : List Bytes)) (m := s_0) T10.E77 rfl rfl rfl rfl rfl rfl h_s_0 0 rfl (fun _ => rfl) (fun _ => rfl) rfl hk6 fun ad8 cap9 => (a1 rfl (on (rt_ ?_)))
  cases hr7
  intro a w hS hA
  refine ret1 hA rfl rfl ?_
  exact ⟨⟨_, _, rfl, (hS.listOut 1 rfl (fun _ => rfl))⟩, hS.ext⟩

theorem w108 {M : Prop} {W : World} {H : Hp} (hH : H.le (hp W)) {ad_s_0 : Option Addr} {cap_s_0 : Nat} {s_0 : List IPlace} (h_s_0 : Sl (Flat encIPlace) 3 H ad_s_0 cap_s_0 s_0) {r : List IPlace} (hr : m108 s_0 = some r) : Calls Tryz.prog 108 [.slice ad_s_0 s_0.length cap_s_0].toArray W (RetK M H W (fun v K => ∃ (ad0 : Option Addr) (cap0 : Nat), v = .slice ad0 r.length cap0 ∧ Sl (Flat encIPlace) 3 K ad0 cap0 r)) := by
 have := h_s_0.len
 unfold m108 at hr
 refine enterG (M := M) Tryz.func108 rfl Tryz.ntmps108 rfl hH ?_
 refine sq (rg (a1 rfl (on (sq (sq (rg (m1 rfl (slN U84 rfl rfl (on ?_)))))))))
 refine cb rfl (fun hc3 => ?_) (fun hc3 => ?_)
 ·obtain rfl := Sl.isNil h_s_0 hc3
  have hr4 := (chk_some hr).2
  refine sq (rg (a1 rfl (on (rt_ ?_))))
  cases hr4
  intro a w hS hA
  refine ret1 hA rfl rfl ?_
  exact ⟨⟨_, _, rfl, (Sl.nil _ _ _ _ _ (by decide))⟩, hS.ext⟩
 ·refine sk (sq (rg (bSL 1 encIPlace ([] : List IPlace) (cs := []) T10.E84 rfl rfl rfl rfl rfl rfl fun b5 => (m1 rfl ?_))))
  obtain ⟨hk6, hr7⟩ := chk_some hr
  have := lenA ([] : List IPlace) s_0
  refine apS 1 (enc := encIPlace) (l := ([] : List IPlace)) (m := s_0) T10.E84 rfl rfl rfl rfl rfl rfl h_s_0 0 rfl (fun _ => rfl) (fun _ => rfl) rfl hk6 fun ad8 cap9 => (a1 rfl (on (rt_ ?_)))
  cases hr7
  intro a w hS hA
  refine ret1 hA rfl rfl ?_
  exact ⟨⟨_, _, rfl, (hS.listOut 1 rfl (fun _ => rfl))⟩, hS.ext⟩

theorem w70 {M : Prop} {W : World} {H : Hp} (hH : H.le (hp W)) {cs_h_0 : List Value} (h_0 : Heading) (h_h_0 : (RHeading) H cs_h_0 h_0) {r : Heading} (hr : m70 h_0 = some r) : Calls Tryz.prog 70 [.agg cs_h_0.toArray].toArray W (RetK M H W (fun v K => ∃ (cs0 : List Value), v = .agg cs0.toArray ∧ (RHeading) K cs0 r)) := by
 have hh_h_0 := h_h_0
 obtain ⟨ad1, cap2, ad4, cap5, ad7, cap8, rfl, hl3, hl6, hl9⟩ := h_h_0
 have := hl3.len
 have := hl6.len
 have := hl9.len
 unfold m70 at hr
 refine enterG (M := M) Tryz.func70 rfl Tryz.ntmps70 rfl hH ?_
 refine sq (rg (bI (cs := [.string (bs h_0.name), .slice ad1 h_0.variants.length cap2, .slice ad4 h_0.also.length cap5, .slice ad7 h_0.places.length cap8]) rfl rfl rfl fun q10 K11 hK12 => (al 1 (cs := [.string (bs []), .slice none 0 0, .slice none 0 0, .slice none 0 0]) Tryz.zeroValue86 rfl rfl fun b13 => (on (sq ?_)))))
 obtain ⟨r14, hx15, hr16⟩ := bd_some hr
 obtain ⟨r24, hx25, hr26⟩ := bd_some hr16
 obtain ⟨r34, hx35, hr36⟩ := bd_some hr26
 refine drG 11 mixed (by kernel_rfl) rfl (dt rfl (fb 0 U86 rfl rfl rfl rfl Z9 fin1) (dt rfl (ld G9 rfl rfl ((sS 1 rfl hK12).take 1) rfl fin1) (dt rfl (fb 1 U86 rfl rfl rfl rfl Z77 fin1) (dt rfl (ld G77 rfl rfl (((sS 1 rfl hK12).drop 1).take 1) rfl fin1) ?_))))
 refine DF.und (α := Option Addr × Nat) (none, 0) (fun q => .slice q.1 r14.length q.2) (fun (q : Option Addr × Nat) K => Sl (Flat encS) 1 K q.1 q.2 r14) (fun _ _ _ h x => x.mono (Flat.mono _) h) (by kernel_rfl) rfl (fun a w K hS hA hF => TG.pa hS hA (clK C107 rfl rfl rfl rfl (fun w H hH le => w107 hH (hl3.mono (Flat.mono _) (le.at 2 rfl)) hx15) (by
   rintro v_ K17 ⟨ad18, cap19, rfl, hl20⟩
   exact finU (f := fun q => .slice q.1 r14.length q.2) (G := (fun (q : Option Addr × Nat) K => Sl (Flat encS) 1 K q.1 q.2 r14)) (_, _) (fun _ _ _ h x => x.mono (Flat.mono _) h) hl20))) ?_
 rintro ⟨ad22, cap23⟩
 refine dt rfl (fb 2 U86 rfl rfl rfl rfl Z77 fin1) (dt rfl (ld G77 rfl rfl (((sS 1 rfl hK12).drop 2).take 1) rfl fin1) ?_)
 refine DF.und (α := Option Addr × Nat) (none, 0) (fun q => .slice q.1 r24.length q.2) (fun (q : Option Addr × Nat) K => Sl (Flat encS) 1 K q.1 q.2 r24) (fun _ _ _ h x => x.mono (Flat.mono _) h) (by kernel_rfl) rfl (fun a w K hS hA hF => TG.pa hS hA (clK C107 rfl rfl rfl rfl (fun w H hH le => w107 hH (hl6.mono (Flat.mono _) (le.at 2 rfl)) hx25) (by
   rintro v_ K27 ⟨ad28, cap29, rfl, hl30⟩
   exact finU (f := fun q => .slice q.1 r24.length q.2) (G := (fun (q : Option Addr × Nat) K => Sl (Flat encS) 1 K q.1 q.2 r24)) (_, _) (fun _ _ _ h x => x.mono (Flat.mono _) h) hl30))) ?_
 rintro ⟨ad32, cap33⟩
 refine dt rfl (fb 3 U86 rfl rfl rfl rfl Z84 fin1) (dt rfl (ld G84 rfl rfl ((sS 1 rfl hK12).drop 3) rfl fin1) ?_)
 refine DF.und (α := Option Addr × Nat) (none, 0) (fun q => .slice q.1 r34.length q.2) (fun (q : Option Addr × Nat) K => Sl (Flat encIPlace) 3 K q.1 q.2 r34) (fun _ _ _ h x => x.mono (Flat.mono _) h) (by kernel_rfl) rfl (fun a w K hS hA hF => TG.pa hS hA (clK C108 rfl rfl rfl rfl (fun w H hH le => w108 hH (hl9.mono (Flat.mono _) (le.at 2 rfl)) hx35) (by
   rintro v_ K37 ⟨ad38, cap39, rfl, hl40⟩
   exact finU (f := fun q => .slice q.1 r34.length q.2) (G := (fun (q : Option Addr × Nat) K => Sl (Flat encIPlace) 3 K q.1 q.2 r34)) (_, _) (fun _ _ _ h x => x.mono (Flat.mono _) h) hl40))) ?_
 rintro ⟨ad42, cap43⟩
 refine DF.nil fun K44 hF => ?_
 obtain ⟨hu41, hu31, hu21, _⟩ := hF
 have := hu21.len
 have := hu31.len
 have := hu41.len
 refine bu (cs := [.string (bs h_0.name), .slice ad22 r14.length cap23, .slice ad32 r24.length cap33, .slice ad42 r34.length cap43]) T10.B86 rfl rfl rfl (sto 1 (cs := [.string (bs h_0.name), .slice ad22 r14.length cap23, .slice ad32 r24.length cap33, .slice ad42 r34.length cap43]) Z86 rfl rfl rfl rfl rfl rfl rfl (on (rt_ ?_)))
 cases hr36
 intro a w hS hA
 refine rc1 hA rfl (ResAt.cell rfl (loadsA G86 Z86 (cell_at (hS.get (t := 1) rfl)) rfl)) ?_
 exact ⟨⟨_, rfl, ⟨_, _, _, _, _, _, rfl, (hu21.mono (Flat.mono _) (hS.grow 0 rfl)), (hu31.mono (Flat.mono _) (hS.grow 0 rfl)), (hu41.mono (Flat.mono _) (hS.grow 0 rfl))⟩⟩, hS.ext⟩

theorem w46 {M : Prop} {W : World} {H : Hp} (hH : H.le (hp W)) (hg : Gv M H) {ad_l_0 : Option Addr} {cap_l_0 : Nat} {l_0 : List Heading} (h_l_0 : Sl (RHeading) 4 H ad_l_0 cap_l_0 l_0) (name : Bytes) {r : Heading × Int} (hr : m46 l_0 name = some r) : Calls Tryz.prog 46 [.slice ad_l_0 l_0.length cap_l_0, .string (bs name)].toArray W (RetK M H W (fun v K => ∃ (cs0 : List Value), v = .tuple [.agg cs0.toArray, .int .i64 r.2].toArray ∧ (RHeading) K cs0 r.1)) := by
 have := h_l_0.len
 unfold m46 at hr
 refine enterG (M := M) Tryz.func46 rfl Tryz.ntmps46 rfl hH ?_
 refine sq (rg (al 1 (cs := [.string (bs []), .slice none 0 0, .slice none 0 0, .slice none 0 0]) Tryz.zeroValue86 rfl rfl fun b1 => (a1 rfl (on (sq (rg (m1 rfl ?_)))))))
 obtain ⟨r2, hx3, hr4⟩ := bd_some hr
 refine clK C47 rfl rfl rfl rfl (fun w H hH le => w47 hH (hg.mono (le.at 0 rfl)) (h_l_0.mono (RHeading.mono) (le.at 0 rfl)) hx3) ?_
 rintro v_ K5 ⟨mp6, rfl, hm7⟩
 refine m1 rfl (ex rfl rfl rfl (ex rfl rfl rfl (a1 rfl (a1 rfl (on (sq (sq (rg (m1 rfl (neI rfl rfl rfl (on ?_)))))))))))
 refine ci rfl (fun hc11 => ?_) (fun hc11 => ?_)
 ·have hr12 := if_p hc11 hr4
  refine sq (rg (bu (cs := [.string (bs []), .slice none 0 0, .slice none 0 0, .slice none 0 0]) T10.B86 rfl rfl rfl (m1 rfl (sto 1 (cs := [.string (bs []), .slice none 0 0, .slice none 0 0, .slice none 0 0]) Z86 rfl rfl rfl rfl rfl rfl rfl (a1 rfl (on (rt_ ?_)))))))
  cases hr12
  intro a w hS hA
  refine rc2 hA rfl (ResAt.cell rfl (loadsA G86 Z86 (cell_at (hS.get (t := 1) rfl)) rfl)) (ResAt.tmp rfl) ?_
  exact ⟨⟨_, rfl, ⟨_, _, _, _, _, _, rfl, (Sl.nil _ _ _ _ _ (by decide)), (Sl.nil _ _ _ _ _ (by decide)), (Sl.nil _ _ _ _ _ (by decide))⟩⟩, hS.ext⟩
 ·have hr13 := if_n hc11 hr4
  refine sk (sq (rg (m1 rfl (m1 rfl (lk2 (ke := keS) (enc := (Value.int .i64)) name (z0 := (0 : Int)) U149 U9 Tryz.zeroValue3 rfl rfl rfl rfl (mS 0 rfl hm7) (m1 rfl (ex rfl rfl rfl (ex rfl rfl rfl (a1 rfl (a1 rfl (on ?_)))))))))))
  refine sq (sq (rg (m1 rfl (nt rfl rfl (on ?_)))))
  refine cb rfl (fun hc17 => ?_) (fun hc17 => ?_)
  ·replace hc17 := nbt hc17
   have hr18 := if_f hc17 hr13
   refine sq (rg (bu (cs := [.string (bs []), .slice none 0 0, .slice none 0 0, .slice none 0 0]) T10.B86 rfl rfl rfl (sto 1 (cs := [.string (bs []), .slice none 0 0, .slice none 0 0, .slice none 0 0]) Z86 rfl rfl rfl rfl rfl rfl rfl (a1 rfl (on (rt_ ?_))))))
   cases hr18
   intro a w hS hA
   refine rc2 hA rfl (ResAt.cell rfl (loadsA G86 Z86 (cell_at (hS.get (t := 1) rfl)) rfl)) (ResAt.tmp rfl) ?_
   exact ⟨⟨_, rfl, ⟨_, _, _, _, _, _, rfl, (Sl.nil _ _ _ _ _ (by decide)), (Sl.nil _ _ _ _ _ (by decide)), (Sl.nil _ _ _ _ _ (by decide))⟩⟩, hS.ext⟩
  ·replace hc17 := nbf hc17
   have hr19 := if_p hc17 hr13
   refine sk (sq (rg (m1 rfl (m1 rfl ?_))))
   obtain ⟨hk20, hr21⟩ := chk_some hr19
   obtain ⟨x22, hx23, hr24⟩ := bd_some hr21
   obtain ⟨p25, rfl⟩ := h_l_0.adr hx23
   obtain ⟨cs26, hcs27, hq28, hr29⟩ := h_l_0.at hx23
   have hr30 := hr29
   obtain ⟨ad31, cap32, ad34, cap35, ad37, cap38, rfl, hl33, hl36, hl39⟩ := hr29
   have := hl33.len
   have := hl36.len
   have := hl39.len
   refine iaP U79 Z86 rfl rfl rfl (by omega) (lt_of hx23) (ldA G86 Z86 rfl rfl (sS 1 rfl hq28) rfl ?_)
   obtain ⟨r40, hx41, hr42⟩ := bd_some hr24
   refine clK C70 rfl rfl rfl rfl (fun w H hH le => w70 hH x22 (RHeading.mono _ _ _ _ (le.at 1 rfl) hr30) hx41) ?_
   rintro v_ K43 ⟨cs44, rfl, hr45⟩
   have hr46 := hr45
   obtain ⟨ad47, cap48, ad50, cap51, ad53, cap54, rfl, hl49, hl52, hl55⟩ := hr45
   have := hl49.len
   have := hl52.len
   have := hl55.len
   refine sto 1 (cs := [.string (bs r40.name), .slice ad47 r40.variants.length cap48, .slice ad50 r40.also.length cap51, .slice ad53 r40.places.length cap54]) Z86 rfl rfl rfl rfl rfl rfl rfl (a1 rfl (on (rt_ ?_)))
   cases hr42
   intro a w hS hA
   refine rc2 hA rfl (ResAt.cell rfl (loadsA G86 Z86 (cell_at (hS.get (t := 1) rfl)) rfl)) (ResAt.tmp rfl) ?_
   exact ⟨⟨_, rfl, ⟨_, _, _, _, _, _, rfl, (hl49.mono (Flat.mono _) (hS.grow 0 rfl)), (hl52.mono (Flat.mono _) (hS.grow 0 rfl)), (hl55.mono (Flat.mono _) (hS.grow 0 rfl))⟩⟩, hS.ext⟩

theorem w21 {M : Prop} {W : World} {H : Hp} (hH : H.le (hp W)) (hg : Gv M H)  {r : Bool} (hr : m21 = some r) : Calls Tryz.prog 21 [].toArray W (RetS M W (.bool r)) := by
 unfold m21 at hr
 refine enterG (M := M) Tryz.func21 rfl Tryz.ntmps21 rfl hH ?_
 refine sq (rg (a1 rfl (on (sq (rg (bS (cs := [.string (bs [98])]) T10.E77 rfl rfl rfl rfl fun q1 K2 hq3 hK4 => ?_))))))
 have hl5 : Sl (Flat encS) 1 K2 (some q1) 1 ([[98]] : List Bytes) := Sl.litR (css := [[.string (bs [98])]]) (l := ([[98]] : List Bytes)) ⟨⟨rfl, rfl, rfl⟩, tv⟩ hq3 hK4 rfl
 have := hl5.len
 refine bu (cs := [.string (bs [97]), .slice (some q1) 1 1, .slice none 0 0, .slice none 0 0]) T10.B86 rfl rfl rfl (bS (cs := [.string (bs [97]), .slice (some q1) 1 1, .slice none 0 0, .slice none 0 0]) T10.E79 rfl rfl rfl rfl fun q6 K7 hq8 hK9 => (TG.pack (fun K => Sl (RHeading) 4 K (some q6) 1 ([(⟨[97], ([[98]] : List Bytes), ([] : List Bytes), ([] : List IPlace)⟩ : Heading)] : List Heading)) (fun H le => Sl.litR (css := [[.string (bs [97]), .slice (some q1) 1 1, .slice none 0 0, .slice none 0 0]]) (l := ([(⟨[97], ([[98]] : List Bytes), ([] : List Bytes), ([] : List IPlace)⟩ : Heading)] : List Heading)) ⟨⟨rfl, rfl, ⟨_, _, _, _, _, _, rfl, (hl5.mono (Flat.mono _) (le.at 1 rfl)), (Sl.nil _ _ _ _ _ (by decide)), (Sl.nil _ _ _ _ _ (by decide))⟩⟩, tv⟩ hq8 (hK9.mono (le.at 0 rfl)) rfl) fun K11 hl10 => ?_))
 have := hl10.len
 obtain ⟨r12, hx13, hr14⟩ := bd_some hr
 refine clK C46 rfl rfl rfl rfl (fun w H hH le => w46 hH (hg.mono (le.at 3 rfl)) (hl10.mono (RHeading.mono) (le.at 0 rfl)) [98] hx13) ?_
 rintro v_ K15 ⟨cs16, rfl, hr17⟩
 have hr18 := hr17
 obtain ⟨ad19, cap20, ad22, cap23, ad25, cap26, rfl, hl21, hl24, hl27⟩ := hr17
 have := hl21.len
 have := hl24.len
 have := hl27.len
 refine m1 rfl (ex rfl rfl rfl (ex rfl rfl rfl (va (cs := [.string (bs r12.1.name), .slice ad19 r12.1.variants.length cap20, .slice ad22 r12.1.also.length cap23, .slice ad25 r12.1.places.length cap26]) Tryz.zeroValue86 Z86 rfl rfl rfl rfl rfl rfl rfl rfl fun q28 K29 hK30 => (a1 rfl (on (sq ?_))))))
 obtain ⟨t34, hx35, hr36⟩ := bd_some hr14
 refine jn (fun a w => St M W H [K29, K15, K11, K7, K2, H] [] w ∧ Has [] 17 a [(0, .bool t34)]) ?_ ?_
 ·refine rg (m1 rfl (eqI rfl rfl rfl (m1 rfl ?_)))
  by_cases hb37 : r12.2 = 0
  ·have hr38 := if_p hb37 hx35
   refine gt hb37 rfl (fb 0 U86 rfl rfl rfl rfl Z9 (gt hb37 rfl (ld G9 rfl rfl ((sS 0 rfl hK30).take 1) rfl (gt hb37 rfl (eqS rfl rfl rfl (pt hb37 rfl rfl (a1 rfl (on ?_))))))))
   cases hr38
   exact cu ⟨rfl, tv⟩
  ·have hr39 := if_n hb37 hx35
   refine gf hb37 rfl (gf hb37 rfl (gf hb37 rfl (pf hb37 rfl rfl (a1 rfl (on ?_)))))
   cases hr39
   exact cu ⟨rfl, tv⟩
 ·rintro a w ⟨hS, hA⟩
  refine TG.ap ?_ hS hA
  refine rt_ ?_
  cases hr36
  intro a w hS hA
  refine ret1 hA rfl rfl ?_
  exact ⟨rfl, hS.ext⟩

theorem w11 {M : Prop} {W : World} {H : Hp} (hH : H.le (hp W)) {cs_v_0 : List Value} (v_0 : Volume) (h_v_0 : (RVolume) H cs_v_0 v_0) {r : Volume} (hr : m11 v_0 = some r) : Calls Tryz.prog 11 [.agg cs_v_0.toArray].toArray W (RetK M H W (fun v K => ∃ (cs0 : List Value), v = .agg cs0.toArray ∧ (RVolume) K cs0 r)) := by
 have hh_v_0 := h_v_0
 obtain ⟨ad1, cap2, rfl, hl3⟩ := h_v_0
 have := hl3.len
 unfold m11 at hr
 refine enterG (M := M) Tryz.func11 rfl Tryz.ntmps11 rfl hH ?_
 refine sq (rg (bI (cs := [.int .i64 v_0.number, .int .i64 v_0.bound, .int .i64 v_0.height, .int .i64 v_0.width, .slice ad1 v_0.parts.length cap2]) rfl rfl rfl fun q4 K5 hK6 => (al 1 (cs := [.int .i64 0, .int .i64 0, .int .i64 0, .int .i64 0, .slice none 0 0]) Tryz.zeroValue42 rfl rfl fun b7 => (on (sq (rg (fb 0 U24 rfl rfl rfl rfl Z3 (ld G3 rfl rfl ((sS 0 rfl hK6).take 1) rfl (fb 1 U24 rfl rfl rfl rfl Z3 (ld G3 rfl rfl (((sS 0 rfl hK6).drop 1).take 1) rfl (fb 2 U24 rfl rfl rfl rfl Z3 ?_)))))))))))
 refine ld G3 rfl rfl (((sS 0 rfl hK6).drop 2).take 1) rfl (fb 3 U24 rfl rfl rfl rfl Z3 (ld G3 rfl rfl (((sS 0 rfl hK6).drop 3).take 1) rfl (bu (cs := [.int .i64 v_0.number, .int .i64 v_0.bound, .int .i64 v_0.height, .int .i64 v_0.width, .slice none 0 0]) T10.B42 rfl rfl rfl (al 2 (cs := [.int .i64 0, .int .i64 0, .int .i64 0, .int .i64 0, .slice none 0 0]) Tryz.zeroValue42 rfl rfl fun b8 => (sto 2 (cs := [.int .i64 v_0.number, .int .i64 v_0.bound, .int .i64 v_0.height, .int .i64 v_0.width, .slice none 0 0]) Z42 rfl rfl rfl rfl rfl rfl rfl (on (sq (sq (rg (a1 rfl (on ?_)))))))))))
 refine TG.nilRow 7 105 2 ?_
 have hR105 : Rows (RPart) 2 H [] ([] : List Part) := tv
 refine TG.as 7 (z := Own.rows none 0 105 2 [] ([] : List Part)) rfl rfl ?_
 obtain ⟨e311, hl312, hr313⟩ := bd_some hr
 refine jn (fun a w => ∃ (ad314 : Option Addr) (cap315 : Nat) (css316 : List (List Value)) (K317 : Hp), St M W H [K317, K5, H] [(7, Own.rows ad314 cap315 105 2 css316 e311), (2, cel b8 42 [.int .i64 v_0.number, .int .i64 v_0.bound, .int .i64 v_0.height, .int .i64 v_0.width, .slice ad314 e311.length cap315]), (1, cel b7 42 [.int .i64 0, .int .i64 0, .int .i64 0, .int .i64 0, .slice none 0 0])] w ∧ Has [] 68 a [(2, .pointer (some (⟨b7, 0, none⟩))), (3, .pointer (some (⟨b8, 0, none⟩)))] ∧ Rows (RPart) 2 K317 css316 e311) ?_ ?_
 ·refine bk ?_
  refine lp hl312 (fun s319 a w => ∃ (ad320 : Option Addr) (cap321 : Nat) (css322 : List (List Value)) (K323 : Hp), St M W H [K323, K5, H] [(7, Own.rows ad320 cap321 105 2 css322 s319.2), (2, cel b8 42 [.int .i64 v_0.number, .int .i64 v_0.bound, .int .i64 v_0.height, .int .i64 v_0.width, .slice ad320 s319.2.length cap321]), (1, cel b7 42 [.int .i64 0, .int .i64 0, .int .i64 0, .int .i64 0, .slice none 0 0])] w ∧ Has [] 68 a [(1, .pointer (some q4)), (2, .pointer (some (⟨b7, 0, none⟩))), (3, .pointer (some (⟨b8, 0, none⟩))), (4, .int .i64 (s319.1 : Int))] ∧ Rows (RPart) 2 K323 css322 s319.2) ?_ ?_
  ·intro a w hS hA
   exact ⟨none, 0, [], H, hS.selH [1, 0, 1] rfl, hA.cut ⟨rfl, rfl, rfl, rfl, tv⟩, hR105⟩
  ·rintro j s319 y327 hr325 hz326 a w ⟨ad320, cap321, css322, K323, hS, hA, hR324⟩
   refine TG.ap ?_ hS hA
   unfold m11_1 at hr325
   refine sq (sq (rg (m1 rfl (fb 4 U24 rfl rfl rfl rfl Z22 (ld G22 rfl rfl ((sS 1 rfl hK6).drop 4) rfl (lnL U22 rfl rfl (ltI rfl rfl rfl (on ?_))))))))
   refine ci rfl (fun hc331 => ?_) (fun hc331 => ?_)
   ·have hr332 := if_p hc331 hr325
    refine sk (sq (bk (sq (rg (fb 4 U24 rfl rfl rfl rfl Z22 (ld G22 rfl rfl ((sS 1 rfl hK6).drop 4) rfl (m1 rfl ?_)))))))
    obtain ⟨x424, hx425, hr426⟩ := bd_some hr332
    obtain ⟨p427, rfl⟩ := hl3.adr hx425
    obtain ⟨cs428, hcs429, hq430, hr431⟩ := hl3.at hx425
    have hr432 := hr431
    obtain ⟨ad433, cap434, rfl, hl435⟩ := hr431
    have := hl435.len
    refine iaP U22 Z94 rfl rfl rfl rfl (lt_of hx425) (fb 0 U94 rfl rfl rfl rfl Z3 (ld G3 rfl rfl ((sS 2 rfl hq430).take 1) rfl (bu (cs := [.int .i64 x424.day, .slice none 0 0]) T10.B105 rfl rfl rfl (al 3 (cs := [.int .i64 0, .slice none 0 0]) Tryz.zeroValue105 rfl rfl fun b436 => (sto 3 (cs := [.int .i64 x424.day, .slice none 0 0]) Z105 rfl rfl rfl rfl rfl rfl rfl (on (sq (sq (rg (a1 rfl (on ?_)))))))))))
    refine TG.nilRow 5 52 2 (TG.as 5 (z := Own.list none 0 52 2 encParagraph ([] : List Paragraph)) rfl rfl ?_)
    obtain ⟨e503, hl504, hr505⟩ := bd_some hr426
    refine jn (fun a w => ∃ (ad506 : Option Addr) (cap507 : Nat), St M W H [K323, K5, H] [(5, Own.list ad506 cap507 52 2 encParagraph e503), (3, cel b436 105 [.int .i64 x424.day, .slice ad506 e503.length cap507]), (7, Own.rows ad320 cap321 105 2 css322 s319.2), (2, cel b8 42 [.int .i64 v_0.number, .int .i64 v_0.bound, .int .i64 v_0.height, .int .i64 v_0.width, .slice ad320 s319.2.length cap321]), (1, cel b7 42 [.int .i64 0, .int .i64 0, .int .i64 0, .int .i64 0, .slice none 0 0])] w ∧ Has [] 68 a [(1, .pointer (some q4)), (2, .pointer (some (⟨b7, 0, none⟩))), (3, .pointer (some (⟨b8, 0, none⟩))), (4, .int .i64 (s319.1 : Int)), (5, .pointer (some (⟨b436, 0, none⟩)))]) ?_ ?_
    ·refine bk ?_
     refine lp hl504 (fun s508 a w => ∃ (ad509 : Option Addr) (cap510 : Nat), St M W H [K323, K5, H] [(5, Own.list ad509 cap510 52 2 encParagraph s508.2), (3, cel b436 105 [.int .i64 x424.day, .slice ad509 s508.2.length cap510]), (7, Own.rows ad320 cap321 105 2 css322 s319.2), (2, cel b8 42 [.int .i64 v_0.number, .int .i64 v_0.bound, .int .i64 v_0.height, .int .i64 v_0.width, .slice ad320 s319.2.length cap321]), (1, cel b7 42 [.int .i64 0, .int .i64 0, .int .i64 0, .int .i64 0, .slice none 0 0])] w ∧ Has [] 68 a [(1, .pointer (some q4)), (2, .pointer (some (⟨b7, 0, none⟩))), (3, .pointer (some (⟨b8, 0, none⟩))), (4, .int .i64 (s319.1 : Int)), (5, .pointer (some (⟨b436, 0, none⟩))), (6, .int .i64 (s508.1 : Int))]) ?_ ?_
     ·intro a w hS hA
      exact ⟨none, 0, hS, hA.cut ⟨rfl, rfl, rfl, rfl, rfl, rfl, tv⟩⟩
     ·rintro j s508 y513 hr511 hz512 a w ⟨ad509, cap510, hS, hA⟩
      refine TG.ap ?_ hS hA
      unfold m11_2 at hr511
      refine sq (sq (rg (m1 rfl (fb 4 U24 rfl rfl rfl rfl Z22 (ld G22 rfl rfl ((sS 1 rfl hK6).drop 4) rfl (m1 rfl (iaP U22 Z94 rfl rfl rfl rfl (lt_of hx425) (fb 1 U94 rfl rfl rfl rfl Z92 (ld G92 rfl rfl ((sS 2 rfl hq430).drop 1) rfl (lnL U92 rfl rfl (ltI rfl rfl rfl ?_)))))))))))
      refine on ?_
      refine ci rfl (fun hc517 => ?_) (fun hc517 => ?_)
      ·have hr518 := if_p hc517 hr511
       refine sk (sq (bk (sq (rg (fb 4 U24 rfl rfl rfl rfl Z22 (ld G22 rfl rfl ((sS 1 rfl hK6).drop 4) rfl (m1 rfl (iaP U22 Z94 rfl rfl rfl rfl (lt_of hx425) (fb 1 U94 rfl rfl rfl rfl Z92 (ld G92 rfl rfl ((sS 2 rfl hq430).drop 1) rfl (m1 rfl ?_)))))))))))
       obtain ⟨x535, hx536, hr537⟩ := bd_some hr518
       obtain ⟨p538, rfl⟩ := hl435.adr hx536
       obtain ⟨cs539, hcs540, hq541, hr542⟩ := hl435.at hx536
       obtain rfl := hr542
       refine iaP U92 Z95 rfl rfl rfl rfl (lt_of hx536) (ldA G95 Z95 rfl rfl (sS 2 rfl hq541) rfl (va (cs := [.int .i64 x535.anchor, .string (bs x535.text)]) Tryz.zeroValue95 Z95 rfl rfl rfl rfl rfl rfl rfl rfl fun q543 K544 hK545 => (on (rg (fb 1 U105 rfl rfl rfl rfl Z36 (ld G36 rfl rfl ((sO 3 rfl).drop 1) rfl (fb 0 U95 rfl rfl rfl rfl Z3 (ld G3 rfl rfl ((sS 0 rfl hK545).take 1) rfl (fb 1 U95 rfl rfl rfl rfl Z9 (ld G9 rfl rfl ((sS 0 rfl hK545).drop 1) rfl (bu (cs := [.int .i64 x535.anchor, .string (bs x535.text)]) T10.B52 rfl rfl rfl ?_)))))))))))
       obtain ⟨hk546, hr547⟩ := chk_some hr537
       have := lenA s508.2 [x535]
       have := len1 x535
       refine ap1 5 encParagraph (l := s508.2) x535 T10.E36 rfl rfl rfl rfl rfl rfl rfl rfl rfl rfl rfl rfl hk546 fun ad548 cap549 u550 => (fb 1 U105 rfl rfl rfl rfl Z36 (sto 3 (cs := [.slice ad548 ((s508.2 ++ [x535]).length) cap549]) Z36 rfl rfl rfl rfl rfl rfl rfl (on (rg (m1 rfl (adI rfl rfl rfl (by omega) (a1 rfl (on ?_))))))))
       cases hr547
       intro a w hS hA
       exact ⟨_, hz512, ad548, cap549, hS.selH [1, 2, 3] rfl, hA.cut ⟨rfl, rfl, rfl, rfl, rfl, rfl, tv⟩⟩
      ·have hr551 := if_n hc517 hr511
       refine xt rfl ?_
       cases hr551
       obtain rfl := Fin.out hz512
       intro a w hS hA
       exact ⟨ad509, cap510, hS, hA.cut ⟨rfl, rfl, rfl, rfl, rfl, tv⟩⟩
    ·rintro a w ⟨ad506, cap507, hS, hA⟩
     refine TG.ap ?_ hS hA
     refine rg (fb 4 U42 rfl rfl rfl rfl Z40 (ld G40 rfl rfl ((sO 2 rfl).drop 4) rfl (ldA G105 Z105 rfl rfl (sO 3 rfl) rfl (TG.still 5 rfl (fun _ => rfl) fun K552 hl553 => ?_))))
     have := hl553.len
     obtain ⟨hk554, hr555⟩ := chk_some hr505
     have := lenA s319.2 [(⟨x424.day, e503⟩ : Part)]
     refine TG.pack (fun K => Rows (RPart) 2 K (css322 ++ [[.int .i64 x424.day, .slice ad506 e503.length cap507]]) (s319.2 ++ [(⟨x424.day, e503⟩ : Part)])) (fun H le => (hR324.mono (RPart.mono) (le.at 1 rfl)).snoc (cs := [.int .i64 x424.day, .slice ad506 e503.length cap507]) (x := (⟨x424.day, e503⟩ : Part)) rfl rfl ⟨_, _, rfl, (hl553.mono (Flat.mono _) (le.at 0 rfl))⟩) fun K559 hR560 => (ap1R 7 [.int .i64 x424.day, .slice ad506 e503.length cap507] (⟨x424.day, e503⟩ : Part) (l := s319.2) (css := css322) T10.E40 rfl rfl rfl rfl rfl rfl rfl rfl rfl rfl rfl rfl hk554 fun ad556 cap557 u558 => (fb 4 U42 rfl rfl rfl rfl Z40 (sto 2 (cs := [.slice ad556 ((s319.2 ++ [(⟨x424.day, e503⟩ : Part)]).length) cap557]) Z40 rfl rfl rfl rfl rfl rfl rfl (on (rg (m1 rfl (adI rfl rfl rfl (by omega) (a1 rfl (on (TG.del 3 ?_))))))))))
     cases hr555
     intro a w hS hA
     exact ⟨_, hz326, ad556, cap557, (css322 ++ [[Value.int .i64 x424.day, Value.slice ad506 e503.length cap507]]), K559, hS.selH [0, 3, 4] rfl, hA.cut ⟨rfl, rfl, rfl, rfl, tv⟩, hR560⟩
   ·have hr561 := if_n hc331 hr325
    refine xt rfl ?_
    cases hr561
    obtain rfl := Fin.out hz326
    intro a w hS hA
    exact ⟨ad320, cap321, css322, K323, hS, hA.cut ⟨rfl, rfl, tv⟩, hR324⟩
 ·rintro a w ⟨ad314, cap315, css316, K317, hS, hA, hR318⟩
  refine TG.ap ?_ hS hA
  refine sq (rg (ldA G42 Z42 rfl rfl (sO 2 rfl) rfl (sto 1 (cs := [.int .i64 v_0.number, .int .i64 v_0.bound, .int .i64 v_0.height, .int .i64 v_0.width, .slice ad314 e311.length cap315]) Z42 rfl rfl rfl rfl rfl rfl rfl (on (rt_ ?_)))))
  cases hr313
  intro a w hS hA
  refine rc1 hA rfl (ResAt.cell rfl (loadsA G42 Z42 (cell_at (hS.get (t := 1) rfl)) rfl)) ?_
  exact ⟨⟨_, rfl, ⟨_, _, rfl, (hS.rowsOut 7 rfl 0 rfl (RPart.mono) hR318)⟩⟩, hS.ext⟩

theorem w36 {M : Prop} {W : World} {cs_x_0 : List Value} (x_0 : Erratum) (h_x_0 : (Flat encErratum) (hp W) cs_x_0 x_0) {r : Erratum} (hr : m36 x_0 = some r) : Calls Tryz.prog 36 [.agg cs_x_0.toArray].toArray W (RetS M W (.agg (encErratum r).toArray)) := by
 obtain rfl := h_x_0
 unfold m36 at hr
 refine enterG (M := M) Tryz.func36 rfl Tryz.ntmps36 rfl (Hp.le.refl _) ?_
 refine sq (rg (bI (cs := [.int .i64 x_0.number, .int .i64 x_0.day, .int .u8 x_0.kind, .int .i64 x_0.anchor, .string (bs x_0.text), .int .i64 x_0.new_]) rfl rfl rfl fun q1 K2 hK3 => (al 1 (cs := [.int .i64 0, .int .i64 0, .int .u8 0, .int .i64 0, .string (bs []), .int .i64 0]) Tryz.zeroValue116 rfl rfl fun b4 => (on (sq (rg (fb 0 U97 rfl rfl rfl rfl Z3 (ld G3 rfl rfl ((sS 0 rfl hK3).take 1) rfl (fb 1 U97 rfl rfl rfl rfl Z3 (ld G3 rfl rfl (((sS 0 rfl hK3).drop 1).take 1) rfl (fb 2 U97 rfl rfl rfl rfl Z5 ?_)))))))))))
 refine ld G5 rfl rfl (((sS 0 rfl hK3).drop 2).take 1) rfl (fb 3 U97 rfl rfl rfl rfl Z3 (ld G3 rfl rfl (((sS 0 rfl hK3).drop 3).take 1) rfl (fb 4 U97 rfl rfl rfl rfl Z9 (ld G9 rfl rfl (((sS 0 rfl hK3).drop 4).take 1) rfl (fb 5 U97 rfl rfl rfl rfl Z3 (ld G3 rfl rfl ((sS 0 rfl hK3).drop 5) rfl (bu (cs := [.int .i64 x_0.number, .int .i64 x_0.day, .int .u8 x_0.kind, .int .i64 x_0.anchor, .string (bs x_0.text), .int .i64 x_0.new_]) T10.B116 rfl rfl rfl (sto 1 (cs := [.int .i64 x_0.number, .int .i64 x_0.day, .int .u8 x_0.kind, .int .i64 x_0.anchor, .string (bs x_0.text), .int .i64 x_0.new_]) Z116 rfl rfl rfl rfl rfl rfl rfl (on (rt_ ?_))))))))))
 obtain rfl := sj hr
 intro a w hS hA
 refine rc1 hA rfl (ResAt.cell rfl (loadsA G116 Z116 (cell_at (hS.get (t := 1) rfl)) rfl)) ?_
 exact ⟨rfl, hS.ext⟩

theorem w12 {M : Prop} {W : World} {H : Hp} (hH : H.le (hp W)) {ad_l_0 : Option Addr} {cap_l_0 : Nat} {l_0 : List Erratum} (h_l_0 : Sl (Flat encErratum) 6 H ad_l_0 cap_l_0 l_0) {r : List Erratum} (hr : m12 l_0 = some r) : Calls Tryz.prog 12 [.slice ad_l_0 l_0.length cap_l_0].toArray W (RetK M H W (fun v K => ∃ (ad0 : Option Addr) (cap0 : Nat), v = .slice ad0 r.length cap0 ∧ Sl (Flat encErratum) 6 K ad0 cap0 r)) := by
 have := h_l_0.len
 unfold m12 at hr
 refine enterG (M := M) Tryz.func12 rfl Tryz.ntmps12 rfl hH ?_
 refine sq (rg (a1 rfl (on (sq (rg (a1 rfl (on (sq (sq (rg (a1 rfl ?_)))))))))))
 refine on (TG.nilRow 2 116 6 (TG.as 2 (z := Own.list none 0 116 6 encErratum ([] : List Erratum)) rfl rfl ?_))
 obtain ⟨e67, hl68, hr69⟩ := bd_some hr
 refine jn (fun a w => ∃ (ad70 : Option Addr) (cap71 : Nat), St M W H [H] [(2, Own.list ad70 cap71 116 6 encErratum e67)] w ∧ Has [] 20 a [(3, .slice ad70 e67.length cap71)]) ?_ ?_
 ·refine bk ?_
  refine lp hl68 (fun s72 a w => ∃ (ad73 : Option Addr) (cap74 : Nat), St M W H [H] [(2, Own.list ad73 cap74 116 6 encErratum s72.2)] w ∧ Has [] 20 a [(0, .slice ad_l_0 l_0.length cap_l_0), (3, .slice ad73 s72.2.length cap74), (4, .int .i64 (s72.1 : Int))]) ?_ ?_
  ·intro a w hS hA
   exact ⟨none, 0, hS, hA.cut ⟨rfl, rfl, rfl, tv⟩⟩
  ·rintro j s72 y77 hr75 hz76 a w ⟨ad73, cap74, hS, hA⟩
   refine TG.ap ?_ hS hA
   unfold m12_1 at hr75
   refine sq (sq (rg (m1 rfl (m1 rfl (lnL U25 rfl rfl (ltI rfl rfl rfl (on ?_)))))))
   refine ci rfl (fun hc81 => ?_) (fun hc81 => ?_)
   ·have hr82 := if_p hc81 hr75
    refine sk (sq (bk (rg (m1 rfl (m1 rfl (m1 rfl ?_))))))
    obtain ⟨x99, hx100, hr101⟩ := bd_some hr82
    obtain ⟨p102, rfl⟩ := h_l_0.adr hx100
    obtain ⟨cs103, hcs104, hq105, hr106⟩ := h_l_0.at hx100
    obtain rfl := hr106
    refine iaP U25 Z97 rfl rfl rfl rfl (lt_of hx100) (ldA G97 Z97 rfl rfl (sS 0 rfl hq105) rfl ?_)
    obtain ⟨r107, hx108, hr109⟩ := bd_some hr101
    refine clS C36 rfl rfl rfl rfl (fun w H hH le => w36 x99 rfl hx108) ?_
    obtain ⟨hk110, hr111⟩ := chk_some hr109
    have := lenA s72.2 [r107]
    have := len1 r107
    refine ap1 2 encErratum (l := s72.2) r107 T10.E44 rfl rfl rfl rfl rfl rfl rfl rfl rfl rfl rfl rfl hk110 fun ad112 cap113 u114 => (a1 rfl (on (rg (m1 rfl (adI rfl rfl rfl (by omega) (a1 rfl (on ?_)))))))
    cases hr111
    intro a w hS hA
    exact ⟨_, hz76, ad112, cap113, hS, hA.cut ⟨rfl, rfl, rfl, tv⟩⟩
   ·have hr115 := if_n hc81 hr75
    refine xt rfl ?_
    cases hr115
    obtain rfl := Fin.out hz76
    intro a w hS hA
    exact ⟨ad73, cap74, hS, hA.cut ⟨rfl, tv⟩⟩
 ·rintro a w ⟨ad70, cap71, hS, hA⟩
  refine TG.ap ?_ hS hA
  refine sq (rg (m1 rfl (a1 rfl (on (rt_ ?_)))))
  cases hr69
  intro a w hS hA
  refine ret1 hA rfl rfl ?_
  exact ⟨⟨_, _, rfl, (hS.listOut 2 rfl (fun _ => rfl))⟩, hS.ext⟩

theorem w53 {M : Prop} {W : World} {H : Hp} (hH : H.le (hp W)) {cs_v_0 : List Value} (v_0 : Volume) (h_v_0 : (RVolume) H cs_v_0 v_0) {r : List Paragraph} (hr : m53 v_0 = some r) : Calls Tryz.prog 53 [.agg cs_v_0.toArray].toArray W (RetK M H W (fun v K => ∃ (ad0 : Option Addr) (cap0 : Nat), v = .slice ad0 r.length cap0 ∧ Sl (Flat encParagraph) 2 K ad0 cap0 r)) := by
 have hh_v_0 := h_v_0
 obtain ⟨ad1, cap2, rfl, hl3⟩ := h_v_0
 have := hl3.len
 unfold m53 at hr
 refine enterG (M := M) Tryz.func53 rfl Tryz.ntmps53 rfl hH ?_
 refine sq (rg (bI (cs := [.int .i64 v_0.number, .int .i64 v_0.bound, .int .i64 v_0.height, .int .i64 v_0.width, .slice ad1 v_0.parts.length cap2]) rfl rfl rfl fun q4 K5 hK6 => (a1 rfl (on (sq (sq (rg (fb 4 U42 rfl rfl rfl rfl Z40 (ld G40 rfl rfl ((sS 0 rfl hK6).drop 4) rfl (lnL U40 rfl rfl (m1 rfl ?_)))))))))))
 refine on (TG.nilRow 2 52 2 (TG.as 2 (z := Own.list none 0 52 2 encParagraph ([] : List Paragraph)) rfl rfl ?_))
 obtain ⟨e82, hl83, hr84⟩ := bd_some hr
 refine jn (fun a w => ∃ (ad85 : Option Addr) (cap86 : Nat), St M W H [K5, H] [(2, Own.list ad85 cap86 52 2 encParagraph e82)] w ∧ Has [] 18 a [(2, .slice ad85 e82.length cap86)]) ?_ ?_
 ·refine bk ?_
  refine lp hl83 (fun s87 a w => ∃ (ad88 : Option Addr) (cap89 : Nat), St M W H [K5, H] [(2, Own.list ad88 cap89 52 2 encParagraph s87.2)] w ∧ Has [] 18 a [(2, .slice ad88 s87.2.length cap89), (6, .slice ad1 v_0.parts.length cap2), (7, .int .i64 (v_0.parts.length : Int)), (8, .int .i64 (s87.1 : Int))]) ?_ ?_
  ·intro a w hS hA
   exact ⟨none, 0, hS, hA.cut ⟨rfl, rfl, rfl, rfl, tv⟩⟩
  ·rintro j s87 y92 hr90 hz91 a w ⟨ad88, cap89, hS, hA⟩
   refine TG.ap ?_ hS hA
   unfold m53_1 at hr90
   refine sq (rg (ltI rfl rfl rfl (on (sq ?_))))
   refine ci rfl (fun hc96 => ?_) (fun hc96 => ?_)
   ·have hr97 := if_p hc96 hr90
    refine sk (sq (bk (sq (rg ?_))))
    obtain ⟨x117, hx118, hr119⟩ := bd_some hr97
    obtain ⟨p120, rfl⟩ := hl3.adr hx118
    obtain ⟨cs121, hcs122, hq123, hr124⟩ := hl3.at hx118
    have hr125 := hr124
    obtain ⟨ad126, cap127, rfl, hl128⟩ := hr124
    have := hl128.len
    refine iaP U40 Z105 rfl rfl rfl rfl (lt_of hx118) (ldA G105 Z105 rfl rfl (sS 1 rfl hq123) rfl (va (cs := [.int .i64 x117.day, .slice ad126 x117.paragraphs.length cap127]) Tryz.zeroValue105 Z105 rfl rfl rfl rfl rfl rfl rfl rfl fun q129 K130 hK131 => (on (rg (m1 rfl (fb 1 U105 rfl rfl rfl rfl Z36 (ld G36 rfl rfl ((sS 0 rfl hK131).drop 1) rfl ?_)))))))
    obtain ⟨hk132, hr133⟩ := chk_some hr119
    have := lenA s87.2 x117.paragraphs
    refine apS 2 (enc := encParagraph) (l := s87.2) (m := x117.paragraphs) T10.E36 rfl rfl rfl rfl rfl rfl hl128 2 rfl (fun _ => rfl) (fun _ => rfl) rfl hk132 fun ad134 cap135 => (a1 rfl (on (rg (adI rfl rfl rfl (by omega) (m1 rfl (on ?_))))))
    cases hr133
    intro a w hS hA
    exact ⟨_, hz91, ad134, cap135, hS.selH [1, 2] rfl, hA.cut ⟨rfl, rfl, rfl, rfl, tv⟩⟩
   ·have hr136 := if_n hc96 hr90
    refine xt rfl ?_
    cases hr136
    obtain rfl := Fin.out hz91
    intro a w hS hA
    exact ⟨ad88, cap89, hS, hA.cut ⟨rfl, tv⟩⟩
 ·rintro a w ⟨ad85, cap86, hS, hA⟩
  refine TG.ap ?_ hS hA
  refine sq (rg (m1 rfl (a1 rfl (on (rt_ ?_)))))
  cases hr84
  intro a w hS hA
  refine ret1 hA rfl rfl ?_
  exact ⟨⟨_, _, rfl, (hS.listOut 2 rfl (fun _ => rfl))⟩, hS.ext⟩

theorem w44 {M : Prop} {W : World} (n_0 : Int) (low : Int) (high : Int) {r : Bool} (hr : m44 n_0 low high = some r) : Calls Tryz.prog 44 [.int .i64 n_0, .int .i64 low, .int .i64 high].toArray W (RetS M W (.bool r)) := by
 unfold m44 at hr
 refine enterG (M := M) Tryz.func44 rfl Tryz.ntmps44 rfl (Hp.le.refl _) ?_
 refine sq (rg (a1 rfl (on (sq ?_))))
 obtain ⟨t4, hx5, hr6⟩ := bd_some hr
 refine jn (fun a w => St M W (hp W) [(hp W)] [] w ∧ Has [] 15 a [(6, .bool t4)]) ?_ ?_
 ·refine rg (m1 rfl (m1 rfl (leI rfl rfl rfl (m1 rfl ?_))))
  by_cases hb7 : low ≤ n_0
  ·have hr8 := if_p hb7 hx5
   refine gt hb7 rfl (m1 rfl (gt hb7 rfl (m1 rfl (gt hb7 rfl (leI rfl rfl rfl (pt hb7 rfl rfl (a1 rfl (on ?_))))))))
   cases hr8
   exact cu ⟨rfl, tv⟩
  ·have hr9 := if_n hb7 hx5
   refine gf hb7 rfl (gf hb7 rfl (gf hb7 rfl (pf hb7 rfl rfl (a1 rfl (on ?_)))))
   cases hr9
   exact cu ⟨rfl, tv⟩
 ·rintro a w ⟨hS, hA⟩
  refine TG.ap ?_ hS hA
  refine rt_ ?_
  cases hr6
  intro a w hS hA
  refine ret1 hA rfl rfl ?_
  exact ⟨rfl, hS.ext⟩

theorem w34 {M : Prop} {W : World} (n_0 : Int) {r : Bool} (hr : m34 n_0 = some r) : Calls Tryz.prog 34 [.int .i64 n_0].toArray W (RetS M W (.bool r)) := by
 unfold m34 at hr
 refine enterG (M := M) Tryz.func34 rfl Tryz.ntmps34 rfl (Hp.le.refl _) ?_
 refine sq (rg (a1 rfl (on (sq (rg (m1 rfl ?_))))))
 obtain ⟨r1, hx2, hr3⟩ := bd_some hr
 refine clS C44 rfl rfl rfl rfl (fun w H hH le => w44 n_0 0 99999 hx2) (a1 rfl (on (rt_ ?_)))
 cases hr3
 intro a w hS hA
 refine ret1 hA rfl rfl ?_
 exact ⟨rfl, hS.ext⟩

theorem w158 {M : Prop} {W : World} {H : Hp} (hH : H.le (hp W)) {cs_x_0 : List Value} (x_0 : Paragraph) (h_x_0 : (Flat encParagraph) H cs_x_0 x_0) {q_f0_ : Addr} {fv_f0_ : Value} {f0_ : Paragraph → Option Bool} (hc_f0_ : CellsAt H q_f0_ [fv_f0_]) (h_f0_ : FnV M Tryz.prog H fv_f0_ (SF1 (Va encParagraph) Value.bool f0_)) {r : Bool} (hr : m158 x_0 f0_ = some r) : Calls Tryz.prog 158 [.agg cs_x_0.toArray, .pointer (some q_f0_)].toArray W (RetS M W (.bool r)) := by
 obtain rfl := h_x_0
 have hh_f0_ := h_f0_
 obtain ⟨f_f0_, fi_f0_, ca_f0_, rfl, _, _⟩ := h_f0_
 unfold m158 at hr
 refine enterG (M := M) Tryz.func158 rfl Tryz.ntmps158 rfl hH ?_
 refine sq (rg (bI (cs := [.int .i64 x_0.anchor, .string (bs x_0.text)]) rfl rfl rfl fun q1 K2 hK3 => (a1 rfl (on (sq (rg (ld G224 rfl rfl (sS 1 rfl hc_f0_) rfl (ldA G52 Z52 rfl rfl (sS 0 rfl hK3) rfl ?_))))))))
 obtain ⟨r4, hx5, hr6⟩ := bd_some hr
 refine clV (v := .bool r4) hh_f0_ 1 rfl rfl rfl rfl (fun H le => ⟨_, x_0, r4, rfl, rfl, hx5, rfl⟩) (nt rfl rfl (a1 rfl (on (rt_ ?_))))
 cases hr6
 intro a w hS hA
 refine ret1 hA rfl rfl ?_
 exact ⟨rfl, hS.ext⟩

theorem w199 {M : Prop} {W : World} {H : Hp} (hH : H.le (hp W)) {ad_s_0 : Option Addr} {cap_s_0 : Nat} {s_0 : List Paragraph} (h_s_0 : Sl (Flat encParagraph) 2 H ad_s_0 cap_s_0 s_0) {fv_f_1 : Value} {f_1 : Paragraph → Option Bool} (h_f_1 : FnV M Tryz.prog H fv_f_1 (SF1 (Va encParagraph) Value.bool f_1)) {r : Int} (hr : m199 s_0 f_1 = some r) : Calls Tryz.prog 199 [.slice ad_s_0 s_0.length cap_s_0, fv_f_1].toArray W (RetS M W (.int .i64 r)) := by
 have := h_s_0.len
 have hh_f_1 := h_f_1
 obtain ⟨f_f_1, fi_f_1, ca_f_1, rfl, _, _⟩ := h_f_1
 unfold m199 at hr
 refine enterG (M := M) Tryz.func199 rfl Tryz.ntmps199 rfl hH ?_
 refine sq (rg (a1 rfl (on (sq (sq (rg (m1 rfl (lnL U36 rfl rfl (m1 rfl (on ?_))))))))))
 obtain ⟨e19, hl20, hr21⟩ := bd_some hr
 refine jn (fun a w => ∃ t22, e19 = .inl t22 ∧ St M W H [H] [] w ∧ Has [] 19 a []) ?_ ?_
 ·refine bk ?_
  refine lp hl20 (fun s23 a w => St M W H [H] [] w ∧ Has [] 19 a [(0, .slice ad_s_0 s_0.length cap_s_0), (1, .func (.func f_f_1) fi_f_1.toArray ca_f_1.toArray), (7, .int .i64 (s_0.length : Int)), (8, .int .i64 (s23 : Int))]) ?_ ?_
  ·exact cu ⟨rfl, rfl, rfl, rfl, tv⟩
  ·rintro j s23 y26 hr24 hz25 a w ⟨hS, hA⟩
   refine TG.ap ?_ hS hA
   unfold m199_1 at hr24
   refine sq (rg (ltI rfl rfl rfl (on (sq ?_))))
   refine ci rfl (fun hc30 => ?_) (fun hc30 => ?_)
   ·have hr31 := if_p hc30 hr24
    refine sk (sq (bk (sq (rg (m1 rfl (a1 rfl (on (sq (rg (m1 rfl (m1 rfl ?_)))))))))))
    refine m1 rfl ?_
    obtain ⟨x46, hx47, hr48⟩ := bd_some hr31
    obtain ⟨p49, rfl⟩ := h_s_0.adr hx47
    obtain ⟨cs50, hcs51, hq52, hr53⟩ := h_s_0.at hx47
    obtain rfl := hr53
    refine iaP U36 Z52 rfl rfl rfl rfl (lt_of hx47) (ldA G52 Z52 rfl rfl (sS 0 rfl hq52) rfl ?_)
    obtain ⟨r54, hx55, hr56⟩ := bd_some hr48
    refine clV (v := .bool r54) hh_f_1 0 rfl rfl rfl rfl (fun H le => ⟨_, x46, r54, rfl, rfl, hx55, rfl⟩) (on ?_)
    refine cb rfl (fun hc60 => ?_) (fun hc60 => ?_)
    ·have hr61 := if_p hc60 hr56
     refine sq (rg (m1 rfl (a1 rfl (on (rt_ ?_)))))
     cases hr61
     obtain rfl := Fin.out hz25
     cases hr21
     intro a w hS hA
     refine ret1 hA rfl rfl ?_
     exact ⟨rfl, hS.ext⟩
    ·have hr62 := if_f hc60 hr56
     refine sk (rg (adI rfl rfl rfl (by omega) (m1 rfl (on ?_))))
     cases hr62
     intro a w hS hA
     exact ⟨_, hz25, hS, hA.cut ⟨rfl, rfl, rfl, rfl, tv⟩⟩
   ·have hr63 := if_n hc30 hr24
    refine xt rfl ?_
    cases hr63
    obtain rfl := Fin.out hz25
    intro a w hS hA
    exact ⟨_, rfl, hS, hA.cut tv⟩
 ·rintro a w ⟨t22, rfl, hS, hA⟩
  refine TG.ap ?_ hS hA
  refine sq (rg (a1 rfl (on (rt_ ?_))))
  cases hr21
  intro a w hS hA
  refine ret1 hA rfl rfl ?_
  exact ⟨rfl, hS.ext⟩

theorem w157 {M : Prop} {W : World} {H : Hp} (hH : H.le (hp W)) {ad_s_0 : Option Addr} {cap_s_0 : Nat} {s_0 : List Paragraph} (h_s_0 : Sl (Flat encParagraph) 2 H ad_s_0 cap_s_0 s_0) {fv_f_1 : Value} {f_1 : Paragraph → Option Bool} (h_f_1 : FnV M Tryz.prog H fv_f_1 (SF1 (Va encParagraph) Value.bool f_1)) {r : Bool} (hr : m157 s_0 f_1 = some r) : Calls Tryz.prog 157 [.slice ad_s_0 s_0.length cap_s_0, fv_f_1].toArray W (RetS M W (.bool r)) := by
 have := h_s_0.len
 have hh_f_1 := h_f_1
 obtain ⟨f_f_1, fi_f_1, ca_f_1, rfl, _, _⟩ := h_f_1
 unfold m157 at hr
 refine enterG (M := M) Tryz.func157 rfl Tryz.ntmps157 rfl hH ?_
 refine sq (rg (a1 rfl (on (sq (rg (m1 rfl (m1 rfl ?_)))))))
 obtain ⟨r1, hx2, hr3⟩ := bd_some hr
 refine clS C199 rfl rfl rfl rfl (fun w H hH le => w199 hH (h_s_0.mono (Flat.mono _) (le.at 0 rfl)) (f_1 := f_1) (hh_f_1.mono (le.at 0 rfl)) hx2) (geI rfl rfl rfl (a1 rfl (on (rt_ ?_))))
 cases hr3
 intro a w hS hA
 refine ret1 hA rfl rfl ?_
 exact ⟨rfl, hS.ext⟩

theorem w122 {M : Prop} {W : World} {H : Hp} (hH : H.le (hp W)) {ad_l_0 : Option Addr} {cap_l_0 : Nat} {l_0 : List Paragraph} (h_l_0 : Sl (Flat encParagraph) 2 H ad_l_0 cap_l_0 l_0) {fv_right : Value} {right : Paragraph → Option Bool} (h_right : FnV M Tryz.prog H fv_right (SF1 (Va encParagraph) Value.bool right)) {r : Bool} (hr : m122 l_0 right = some r) : Calls Tryz.prog 122 [.slice ad_l_0 l_0.length cap_l_0, fv_right].toArray W (RetS M W (.bool r)) := by
 have := h_l_0.len
 have hh_right := h_right
 obtain ⟨f_right, fi_right, ca_right, rfl, _, _⟩ := h_right
 unfold m122 at hr
 refine enterG (M := M) Tryz.func122 rfl Tryz.ntmps122 rfl hH ?_
 refine sq (rg (bI (cs := [.func (.func f_right) fi_right.toArray ca_right.toArray]) rfl rfl rfl fun q1 K2 hK3 => (a1 rfl (on (sq (rg (m1 rfl (fn rfl rfl rfl ?_))))))))
 obtain ⟨r5, hx6, hr7⟩ := bd_some hr
 refine clS (v := .bool r5) C157 rfl rfl rfl rfl (fun w H hH le => by
   have hf4 : FnV M Tryz.prog H (.func (.func 158) [].toArray [.pointer (some q1)].toArray) (SF1 (Va encParagraph) Value.bool (fun x0_ => m158 x0_ right)) := ⟨158, [], [.pointer (some q1)], rfl, C158, fun w_ K_ args_ v_ hK hw hs => by obtain ⟨u0_, x0_, r_, rfl, h0_, hx, rfl⟩ := hs; cases h0_; exact w158 (H := K_) hw  x0_ rfl (f0_ := right) (hK3.mono ((le.at 0 rfl).trans hK)) (hh_right.mono ((le.at 1 rfl).trans hK)) hx⟩
   exact w157 hH (h_l_0.mono (Flat.mono _) (le.at 1 rfl)) (f_1 := (fun x0_ => m158 x0_ right)) hf4 hx6) ?_
 refine nt rfl rfl (a1 rfl (on (rt_ ?_)))
 cases hr7
 intro a w hS hA
 refine ret1 hA rfl rfl ?_
 exact ⟨rfl, hS.ext⟩

theorem w83 {M : Prop} {W : World} (n_0 : Int) {r : Bool} (hr : m83 n_0 = some r) : Calls Tryz.prog 83 [.int .i64 n_0].toArray W (RetS M W (.bool r)) := by
 unfold m83 at hr
 refine enterG (M := M) Tryz.func83 rfl Tryz.ntmps83 rfl (Hp.le.refl _) ?_
 refine sq (rg (a1 rfl (on (sq (rg (m1 rfl ?_))))))
 obtain ⟨r1, hx2, hr3⟩ := bd_some hr
 refine clS C44 rfl rfl rfl rfl (fun w H hH le => w44 n_0 1 999 hx2) (a1 rfl (on (rt_ ?_)))
 cases hr3
 intro a w hS hA
 refine ret1 hA rfl rfl ?_
 exact ⟨rfl, hS.ext⟩

theorem w160 {M : Prop} {W : World} {H : Hp} (hH : H.le (hp W)) (x_0 : Int) {q_f0_ : Addr} {fv_f0_ : Value} {f0_ : Int → Option Bool} (hc_f0_ : CellsAt H q_f0_ [fv_f0_]) (h_f0_ : FnV M Tryz.prog H fv_f0_ (SF1 (Vi .u8) Value.bool f0_)) {r : Bool} (hr : m160 x_0 f0_ = some r) : Calls Tryz.prog 160 [.int .u8 x_0, .pointer (some q_f0_)].toArray W (RetS M W (.bool r)) := by
 have hh_f0_ := h_f0_
 obtain ⟨f_f0_, fi_f0_, ca_f0_, rfl, _, _⟩ := h_f0_
 unfold m160 at hr
 refine enterG (M := M) Tryz.func160 rfl Tryz.ntmps160 rfl hH ?_
 refine sq (rg (a1 rfl (on (sq (rg (ld G227 rfl rfl (sS 0 rfl hc_f0_) rfl (m1 rfl ?_)))))))
 obtain ⟨r1, hx2, hr3⟩ := bd_some hr
 refine clV (v := .bool r1) hh_f0_ 0 rfl rfl rfl rfl (fun H le => ⟨_, x_0, r1, rfl, rfl, hx2, rfl⟩) (nt rfl rfl (a1 rfl (on (rt_ ?_))))
 cases hr3
 intro a w hS hA
 refine ret1 hA rfl rfl ?_
 exact ⟨rfl, hS.ext⟩

theorem w125 {M : Prop} {W : World} {H : Hp} (hH : H.le (hp W)) {ad_l_0 : Option Addr} {cap_l_0 : Nat} {l_0 : List UInt8} (h_l_0 : Sl (Flat encC) 1 H ad_l_0 cap_l_0 l_0) {fv_right : Value} {right : Int → Option Bool} (h_right : FnV M Tryz.prog H fv_right (SF1 (Vi .u8) Value.bool right)) {r : Bool} (hr : m125 l_0 right = some r) : Calls Tryz.prog 125 [.slice ad_l_0 l_0.length cap_l_0, fv_right].toArray W (RetS M W (.bool r)) := by
 have := h_l_0.len
 have hh_right := h_right
 obtain ⟨f_right, fi_right, ca_right, rfl, _, _⟩ := h_right
 unfold m125 at hr
 refine enterG (M := M) Tryz.func125 rfl Tryz.ntmps125 rfl hH ?_
 refine sq (rg (bI (cs := [.func (.func f_right) fi_right.toArray ca_right.toArray]) rfl rfl rfl fun q1 K2 hK3 => (a1 rfl (on (sq (rg (m1 rfl (fn rfl rfl rfl ?_))))))))
 obtain ⟨r5, hx6, hr7⟩ := bd_some hr
 refine clS (v := .bool r5) C159 rfl rfl rfl rfl (fun w H hH le => by
   have hf4 : FnV M Tryz.prog H (.func (.func 160) [].toArray [.pointer (some q1)].toArray) (SF1 (Vi .u8) Value.bool (fun x0_ => m160 x0_ right)) := ⟨160, [], [.pointer (some q1)], rfl, C160, fun w_ K_ args_ v_ hK hw hs => by obtain ⟨u0_, x0_, r_, rfl, h0_, hx, rfl⟩ := hs; cases h0_; exact w160 (H := K_) hw  x0_ (f0_ := right) (hK3.mono ((le.at 0 rfl).trans hK)) (hh_right.mono ((le.at 1 rfl).trans hK)) hx⟩
   exact w159 hH (h_l_0.mono (Flat.mono _) (le.at 1 rfl)) (f_1 := (fun x0_ => m160 x0_ right)) hf4 hx6) ?_
 refine nt rfl rfl (a1 rfl (on (rt_ ?_)))
 cases hr7
 intro a w hS hA
 refine ret1 hA rfl rfl ?_
 exact ⟨rfl, hS.ext⟩

theorem w126 {M : Prop} {W : World} (c_0 : Int) {r : Bool} (hr : m126 c_0 = some r) : Calls Tryz.prog 126 [.int .u8 c_0].toArray W (RetS M W (.bool r)) := by
 unfold m126 at hr
 refine enterG (M := M) Tryz.func126 rfl Tryz.ntmps126 rfl (Hp.le.refl _) ?_
 refine sq (rg (a1 rfl (on (sq ?_))))
 obtain ⟨t4, hx5, hr6⟩ := bd_some hr
 refine jn (fun a w => St M W (hp W) [(hp W)] [] w ∧ Has [] 9 a [(2, .bool t4)]) ?_ ?_
 ·refine rg (m1 rfl (leI rfl rfl rfl (m1 rfl ?_)))
  by_cases hb7 : (32 : Int) ≤ c_0
  ·have hr8 := if_p hb7 hx5
   refine gt hb7 rfl (m1 rfl (gt hb7 rfl (leI rfl rfl rfl (pt hb7 rfl rfl (a1 rfl (on ?_))))))
   cases hr8
   exact cu ⟨rfl, tv⟩
  ·have hr9 := if_n hb7 hx5
   refine gf hb7 rfl (gf hb7 rfl (pf hb7 rfl rfl (a1 rfl (on ?_))))
   cases hr9
   exact cu ⟨rfl, tv⟩
 ·rintro a w ⟨hS, hA⟩
  refine TG.ap ?_ hS hA
  refine rt_ ?_
  cases hr6
  intro a w hS hA
  refine ret1 hA rfl rfl ?_
  exact ⟨rfl, hS.ext⟩

theorem w84 {M : Prop} {W : World} (s_0 : Bytes) {r : Bool} (hr : m84 s_0 = some r) : Calls Tryz.prog 84 [.string (bs s_0)].toArray W (RetS M W (.bool r)) := by
 unfold m84 at hr
 refine enterG (M := M) Tryz.func84 rfl Tryz.ntmps84 rfl (Hp.le.refl _) ?_
 refine sq (rg (a1 rfl (on (sq ?_))))
 obtain ⟨t17, hx18, hr19⟩ := bd_some hr
 refine jn (fun a w => St M W (hp W) [(hp W)] [] w ∧ Has [] 11 a [(2, .bool t17)]) ?_ ?_
 ·refine rg (m1 rfl (lnS U9 rfl rfl ?_))
  obtain ⟨r20, hx21, hr22⟩ := bd_some hx18
  refine clS C44 rfl rfl rfl rfl (fun w H hH le => w44 (s_0.length : Int) 1 200 hx21) (m1 rfl ?_)
  rcases Bool.eq_false_or_eq_true (r20) with hb23 | hb23
  ·have hr24 := if_p hb23 hr22
   refine gN rfl rfl (hb23) (m1 rfl (gN rfl rfl (hb23) ?_))
   obtain ⟨hk29, hr30⟩ := chk_some hr24
   refine cvB U9 U147 U5 rfl rfl hk29 fun ad25 cap26 K27 hl28 => ?_
   have := hl28.len
   refine gN rfl rfl (hb23) ?_
   obtain ⟨r32, hx33, hr34⟩ := bd_some hr30
   refine clS (v := .bool r32) C125 rfl rfl rfl rfl (fun w H hH le => by
     have hf31 : FnV M Tryz.prog H (.func (.func 126) [].toArray [].toArray) (SF1 (Vi .u8) Value.bool (m126)) := ⟨126, [], [], rfl, C126, fun w_ K_ args_ v_ hK hw hs => by obtain ⟨u0_, x0_, r_, rfl, h0_, hx, rfl⟩ := hs; cases h0_; exact w126  x0_  hx⟩
     exact w125 hH (hl28.mono (Flat.mono _) (le.at 0 rfl)) (right := (m126)) hf31 hx33) ?_
   refine pT rfl rfl (hb23) rfl (a1 rfl (on ?_))
   cases hr34
   intro a w hS hA
   exact ⟨hS.selH [1] rfl, hA.cut ⟨rfl, tv⟩⟩
  ·have hr35 := if_f hb23 hr22
   refine gF rfl rfl (hb23) rfl (gF rfl rfl (hb23) rfl (gF rfl rfl (hb23) rfl (pF rfl rfl (hb23) rfl (a1 rfl (on ?_)))))
   cases hr35
   exact cu ⟨rfl, tv⟩
 ·rintro a w ⟨hS, hA⟩
  refine TG.ap ?_ hS hA
  refine rt_ ?_
  cases hr19
  intro a w hS hA
  refine ret1 hA rfl rfl ?_
  exact ⟨rfl, hS.ext⟩

theorem w123 {M : Prop} {W : World} {cs_p_0 : List Value} (p_0 : Paragraph) (h_p_0 : (Flat encParagraph) (hp W) cs_p_0 p_0) {r : Bool} (hr : m123 p_0 = some r) : Calls Tryz.prog 123 [.agg cs_p_0.toArray].toArray W (RetS M W (.bool r)) := by
 obtain rfl := h_p_0
 unfold m123 at hr
 refine enterG (M := M) Tryz.func123 rfl Tryz.ntmps123 rfl (Hp.le.refl _) ?_
 refine sq (rg (bI (cs := [.int .i64 p_0.anchor, .string (bs p_0.text)]) rfl rfl rfl fun q1 K2 hK3 => (a1 rfl (on (sq ?_)))))
 obtain ⟨t13, hx14, hr15⟩ := bd_some hr
 refine jn (fun a w => St M W (hp W) [K2, (hp W)] [] w ∧ Has [] 11 a [(2, .bool t13)]) ?_ ?_
 ·refine rg (fb 0 U52 rfl rfl rfl rfl Z3 (ld G3 rfl rfl ((sS 0 rfl hK3).take 1) rfl ?_))
  obtain ⟨r16, hx17, hr18⟩ := bd_some hx14
  refine clS C83 rfl rfl rfl rfl (fun w H hH le => w83 p_0.anchor hx17) (m1 rfl ?_)
  rcases Bool.eq_false_or_eq_true (r16) with hb19 | hb19
  ·have hr20 := if_p hb19 hr18
   refine gN rfl rfl (hb19) (fb 1 U52 rfl rfl rfl rfl Z9 (gN rfl rfl (hb19) (ld G9 rfl rfl ((sS 0 rfl hK3).drop 1) rfl (gN rfl rfl (hb19) ?_))))
   obtain ⟨r21, hx22, hr23⟩ := bd_some hr20
   refine clS C84 rfl rfl rfl rfl (fun w H hH le => w84 p_0.text hx22) (pT rfl rfl (hb19) rfl (a1 rfl (on ?_)))
   cases hr23
   exact cu ⟨rfl, tv⟩
  ·have hr24 := if_f hb19 hr18
   refine gF rfl rfl (hb19) rfl (gF rfl rfl (hb19) rfl (gF rfl rfl (hb19) rfl (pF rfl rfl (hb19) rfl (a1 rfl (on ?_)))))
   cases hr24
   exact cu ⟨rfl, tv⟩
 ·rintro a w ⟨hS, hA⟩
  refine TG.ap ?_ hS hA
  refine rt_ ?_
  cases hr15
  intro a w hS hA
  refine ret1 hA rfl rfl ?_
  exact ⟨rfl, hS.ext⟩

end T10
