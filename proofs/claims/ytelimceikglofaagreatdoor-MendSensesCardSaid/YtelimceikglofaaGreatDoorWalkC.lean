/-
  Walks of functions of layer 4: each call comes to what the model says. Printed by a program of ours.
-/
import Derived.Test.YtelimceikglofaaGreatDoorWalkB
set_option linter.all false
set_option maxHeartbeats 4000000
namespace T4
open Go Go.Proofs Pk
theorem w57 {W : World} {H : Hp} (hH : H.le (hp W)) {cs_l_0 : List Value} (l_0 : Lexicon) (h_l_0 : (RLexicon) H cs_l_0 l_0) (s_1 : Bytes) {r : Mark} (hr : m57 l_0 s_1 = some r) : Calls Tryz.prog 57 [.agg cs_l_0.toArray, .string (bs s_1)].toArray W (RetS W (.agg (encMark r).toArray)) := by
  have hh_l_0 := h_l_0
  obtain ⟨ad1, cap2, ad4, cap5, ad7, cap8, rfl, hl3, hl6, hl9⟩ := h_l_0
  have := hl3.len
  have := hl6.len
  have := hl9.len
  unfold m57 at hr
  refine enterG Tryz.func57 rfl Tryz.ntmps57 rfl hH ?_
  refine sq ?_
  refine rg ?_
  refine bI (cs := [.slice ad1 l_0.numbers.length cap2, .slice ad4 l_0.names.length cap5, .slice ad7 l_0.nots.length cap8]) rfl rfl rfl fun q10 K11 hK12 => ?_
  refine al 1 (cs := [.int .u8 0, .int .i64 0]) Tryz.zeroValue113 rfl rfl fun b13 => ?_
  refine on ?_
  refine sq ?_
  refine sq ?_
  refine rg ?_
  refine av rfl rfl ?_
  refine on ?_
  obtain ⟨e29, hl30, hr31⟩ := bd_some hr
  refine jn (fun a w => ∃ t32, e29 = .inl t32 ∧ St [] W H [K11, H] [(1, cel b13 113 [.int .u8 0, .int .i64 0])] w ∧ Has [] 83 a [(1, .string (bs s_1)), (2, .pointer (some q10)), (4, .pointer (some (⟨b13, 0, none⟩)))]) ?_ ?_
  · refine bk ?_
    refine lp hl30 (fun s33 a w => St [] W H [K11, H] [(1, cel b13 113 [.int .u8 0, .int .i64 0])] w ∧ Has [] 83 a [(1, .string (bs s_1)), (2, .pointer (some q10)), (4, .pointer (some (⟨b13, 0, none⟩))), (5, .int .i64 (s33 : Int))]) ?_ ?_
    · intro a w hS hA
      exact ⟨hS, hA.cut ⟨rfl, rfl, rfl, rfl, trivial⟩⟩
    · rintro j s33 y36 hr34 hz35 a w ⟨hS, hA⟩
      refine TG.ap ?_ hS hA
      unfold m57_1 at hr34
      refine sq ?_
      refine sq ?_
      refine rg ?_
      refine mv rfl rfl ?_
      refine fb 0 Tryz.underlying26 rfl rfl rfl rfl Tryz.sizeOf22 ?_
      refine ld Tryz.isAgg22 rfl rfl ((sS 0 rfl hK12).take 1) rfl ?_
      refine lnL Tryz.underlying22 rfl rfl ?_
      refine ltI rfl rfl rfl ?_
      refine on ?_
      refine ci rfl (fun hc40 => ?_) (fun hc40 => ?_)
      · have hr41 := if_p hc40 hr34
        refine sk ?_
        refine sq ?_
        refine bk ?_
        refine sq ?_
        refine rg ?_
        refine fb 0 Tryz.underlying26 rfl rfl rfl rfl Tryz.sizeOf22 ?_
        refine ld Tryz.isAgg22 rfl rfl ((sS 0 rfl hK12).take 1) rfl ?_
        refine mv rfl rfl ?_
        obtain ⟨x53, hx54, hr55⟩ := bd_some hr41
        obtain ⟨p56, rfl⟩ := hl3.adr hx54
        obtain ⟨cs57, hcs58, hq59, hr60⟩ := hl3.at hx54
        obtain rfl := hr60
        refine iaP Tryz.underlying22 Tryz.sizeOf112 rfl rfl rfl rfl (lt_of hx54) ?_
        refine fb 0 Tryz.underlying112 rfl rfl rfl rfl Tryz.sizeOf9 ?_
        refine ld Tryz.isAgg9 rfl rfl ((sS 1 rfl hq59).take 1) rfl ?_
        refine mv rfl rfl ?_
        refine eqS rfl rfl rfl ?_
        refine on ?_
        refine ci rfl (fun hc64 => ?_) (fun hc64 => ?_)
        · have hr65 := if_p hc64 hr55
          refine sq ?_
          refine rg ?_
          refine fb 0 Tryz.underlying26 rfl rfl rfl rfl Tryz.sizeOf22 ?_
          refine ld Tryz.isAgg22 rfl rfl ((sS 0 rfl hK12).take 1) rfl ?_
          refine mv rfl rfl ?_
          refine iaP Tryz.underlying22 Tryz.sizeOf112 rfl rfl rfl rfl (lt_of hx54) ?_
          refine fb 1 Tryz.underlying112 rfl rfl rfl rfl Tryz.sizeOf3 ?_
          refine ld Tryz.isAgg3 rfl rfl ((sS 1 rfl hq59).drop 1) rfl ?_
          refine bu (cs := [.int .u8 1, .int .i64 x53.value]) T4.B113 rfl rfl rfl ?_
          refine sto 1 (cs := [.int .u8 1, .int .i64 x53.value]) Tryz.sizeOf113 rfl rfl rfl rfl rfl rfl rfl ?_
          refine on ?_
          refine rt_ ?_
          obtain rfl := Option.some.inj hr65
          obtain rfl := Fin.out hz35
          obtain rfl := Option.some.inj hr31
          intro a w hS hA
          refine rc1 hA rfl (ResAt.cell rfl (loadsA Tryz.isAgg113 Tryz.sizeOf113 (cell_at (hS.get (t := 1) rfl)) rfl)) ?_
          exact ⟨rfl, hS.ext⟩
        · have hr66 := if_n hc64 hr55
          refine sk ?_
          refine rg ?_
          refine mv rfl rfl ?_
          refine adI rfl rfl rfl (by omega) ?_
          refine av rfl rfl ?_
          refine on ?_
          obtain rfl := Option.some.inj hr66
          intro a w hS hA
          exact ⟨_, hz35, hS, hA.cut ⟨rfl, rfl, rfl, rfl, trivial⟩⟩
      · have hr67 := if_n hc40 hr34
        refine xt rfl ?_
        obtain rfl := Option.some.inj hr67
        obtain rfl := Fin.out hz35
        intro a w hS hA
        exact ⟨_, rfl, hS, hA.cut ⟨rfl, rfl, rfl, trivial⟩⟩
  · rintro a w ⟨t32, rfl, hS, hA⟩
    refine TG.ap ?_ hS hA
    refine sq ?_
    refine sq ?_
    refine rg ?_
    refine av rfl rfl ?_
    refine on ?_
    obtain ⟨e100, hl101, hr102⟩ := bd_some hr31
    refine jn (fun a w => ∃ t103, e100 = .inl t103 ∧ St [] W H [K11, H] [(1, cel b13 113 [.int .u8 0, .int .i64 0])] w ∧ Has [] 83 a [(1, .string (bs s_1)), (2, .pointer (some q10)), (4, .pointer (some (⟨b13, 0, none⟩)))]) ?_ ?_
    · refine bk ?_
      refine lp hl101 (fun s104 a w => St [] W H [K11, H] [(1, cel b13 113 [.int .u8 0, .int .i64 0])] w ∧ Has [] 83 a [(1, .string (bs s_1)), (2, .pointer (some q10)), (4, .pointer (some (⟨b13, 0, none⟩))), (6, .int .i64 (s104 : Int))]) ?_ ?_
      · intro a w hS hA
        exact ⟨hS, hA.cut ⟨rfl, rfl, rfl, rfl, trivial⟩⟩
      · rintro j s104 y107 hr105 hz106 a w ⟨hS, hA⟩
        refine TG.ap ?_ hS hA
        unfold m57_2 at hr105
        refine sq ?_
        refine sq ?_
        refine rg ?_
        refine mv rfl rfl ?_
        refine fb 1 Tryz.underlying26 rfl rfl rfl rfl Tryz.sizeOf23 ?_
        refine ld Tryz.isAgg23 rfl rfl (((sS 0 rfl hK12).drop 1).take 1) rfl ?_
        refine lnL Tryz.underlying23 rfl rfl ?_
        refine ltI rfl rfl rfl ?_
        refine on ?_
        refine ci rfl (fun hc111 => ?_) (fun hc111 => ?_)
        · have hr112 := if_p hc111 hr105
          refine sk ?_
          refine sq ?_
          refine bk ?_
          refine sq ?_
          refine rg ?_
          refine av rfl rfl ?_
          refine on ?_
          obtain ⟨e168, hl169, hr170⟩ := bd_some hr112
          refine jn (fun a w => ∃ t171, e168 = .inl t171 ∧ St [] W H [K11, H] [(1, cel b13 113 [.int .u8 0, .int .i64 0])] w ∧ Has [] 83 a [(1, .string (bs s_1)), (2, .pointer (some q10)), (4, .pointer (some (⟨b13, 0, none⟩))), (6, .int .i64 (s104 : Int))]) ?_ ?_
          · refine bk ?_
            refine lp hl169 (fun s172 a w => St [] W H [K11, H] [(1, cel b13 113 [.int .u8 0, .int .i64 0])] w ∧ Has [] 83 a [(1, .string (bs s_1)), (2, .pointer (some q10)), (4, .pointer (some (⟨b13, 0, none⟩))), (6, .int .i64 (s104 : Int)), (7, .int .i64 (s172 : Int))]) ?_ ?_
            · intro a w hS hA
              exact ⟨hS, hA.cut ⟨rfl, rfl, rfl, rfl, rfl, trivial⟩⟩
            · rintro j s172 y175 hr173 hz174 a w ⟨hS, hA⟩
              refine TG.ap ?_ hS hA
              unfold m57_3 at hr173
              refine sq ?_
              refine sq ?_
              refine rg ?_
              refine mv rfl rfl ?_
              refine fb 1 Tryz.underlying26 rfl rfl rfl rfl Tryz.sizeOf23 ?_
              refine ld Tryz.isAgg23 rfl rfl (((sS 0 rfl hK12).drop 1).take 1) rfl ?_
              refine mv rfl rfl ?_
              obtain ⟨x176, hx177, hr178⟩ := bd_some hr173
              obtain ⟨p179, rfl⟩ := hl6.adr hx177
              obtain ⟨cs180, hcs181, hq182, hr183⟩ := hl6.at hx177
              have hr184 := hr183
              obtain ⟨ad185, cap186, rfl, hl187⟩ := hr183
              have := hl187.len
              refine iaP Tryz.underlying23 Tryz.sizeOf24 rfl rfl rfl rfl (lt_of hx177) ?_
              refine ld Tryz.isAgg24 rfl rfl (sS 1 rfl hq182) rfl ?_
              refine lnL Tryz.underlying24 rfl rfl ?_
              refine ltI rfl rfl rfl ?_
              refine on ?_
              refine ci rfl (fun hc191 => ?_) (fun hc191 => ?_)
              · have hr192 := if_p hc191 hr178
                refine sk ?_
                refine sq ?_
                refine bk ?_
                refine sq ?_
                refine rg ?_
                refine fb 1 Tryz.underlying26 rfl rfl rfl rfl Tryz.sizeOf23 ?_
                refine ld Tryz.isAgg23 rfl rfl (((sS 0 rfl hK12).drop 1).take 1) rfl ?_
                refine mv rfl rfl ?_
                refine iaP Tryz.underlying23 Tryz.sizeOf24 rfl rfl rfl rfl (lt_of hx177) ?_
                refine ld Tryz.isAgg24 rfl rfl (sS 1 rfl hq182) rfl ?_
                refine mv rfl rfl ?_
                obtain ⟨x204, hx205, hr206⟩ := bd_some hr192
                obtain ⟨p207, rfl⟩ := hl187.adr hx205
                obtain ⟨cs208, hcs209, hq210, hr211⟩ := hl187.at hx205
                obtain rfl := hr211
                refine iaP Tryz.underlying24 Tryz.sizeOf9 rfl rfl rfl rfl (lt_of hx205) ?_
                refine ld Tryz.isAgg9 rfl rfl (sS 1 rfl hq210) rfl ?_
                refine mv rfl rfl ?_
                refine eqS rfl rfl rfl ?_
                refine on ?_
                refine ci rfl (fun hc215 => ?_) (fun hc215 => ?_)
                · have hr216 := if_p hc215 hr206
                  refine sq ?_
                  refine rg ?_
                  refine mv rfl rfl ?_
                  refine bu (cs := [.int .u8 2, .int .i64 (s104 : Int)]) T4.B113 rfl rfl rfl ?_
                  refine sto 1 (cs := [.int .u8 2, .int .i64 (s104 : Int)]) Tryz.sizeOf113 rfl rfl rfl rfl rfl rfl rfl ?_
                  refine on ?_
                  refine rt_ ?_
                  obtain rfl := Option.some.inj hr216
                  obtain rfl := Fin.out hz174
                  obtain rfl := Option.some.inj hr170
                  obtain rfl := Fin.out hz106
                  obtain rfl := Option.some.inj hr102
                  intro a w hS hA
                  refine rc1 hA rfl (ResAt.cell rfl (loadsA Tryz.isAgg113 Tryz.sizeOf113 (cell_at (hS.get (t := 1) rfl)) rfl)) ?_
                  exact ⟨rfl, hS.ext⟩
                · have hr217 := if_n hc215 hr206
                  refine sk ?_
                  refine rg ?_
                  refine mv rfl rfl ?_
                  refine adI rfl rfl rfl (by omega) ?_
                  refine av rfl rfl ?_
                  refine on ?_
                  obtain rfl := Option.some.inj hr217
                  intro a w hS hA
                  exact ⟨_, hz174, hS, hA.cut ⟨rfl, rfl, rfl, rfl, rfl, trivial⟩⟩
              · have hr218 := if_n hc191 hr178
                refine xt rfl ?_
                obtain rfl := Option.some.inj hr218
                obtain rfl := Fin.out hz174
                intro a w hS hA
                exact ⟨_, rfl, hS, hA.cut ⟨rfl, rfl, rfl, rfl, trivial⟩⟩
          · rintro a w ⟨t171, rfl, hS, hA⟩
            refine TG.ap ?_ hS hA
            refine rg ?_
            refine mv rfl rfl ?_
            refine adI rfl rfl rfl (by omega) ?_
            refine av rfl rfl ?_
            refine on ?_
            obtain rfl := Option.some.inj hr170
            intro a w hS hA
            exact ⟨_, hz106, hS, hA.cut ⟨rfl, rfl, rfl, rfl, trivial⟩⟩
        · have hr219 := if_n hc111 hr105
          refine xt rfl ?_
          obtain rfl := Option.some.inj hr219
          obtain rfl := Fin.out hz106
          intro a w hS hA
          exact ⟨_, rfl, hS, hA.cut ⟨rfl, rfl, rfl, trivial⟩⟩
    · rintro a w ⟨t103, rfl, hS, hA⟩
      refine TG.ap ?_ hS hA
      refine sq ?_
      refine sq ?_
      refine rg ?_
      refine av rfl rfl ?_
      refine on ?_
      obtain ⟨e235, hl236, hr237⟩ := bd_some hr102
      refine jn (fun a w => ∃ t238, e235 = .inl t238 ∧ St [] W H [K11, H] [(1, cel b13 113 [.int .u8 0, .int .i64 0])] w ∧ Has [] 83 a [(1, .string (bs s_1)), (4, .pointer (some (⟨b13, 0, none⟩)))]) ?_ ?_
      · refine bk ?_
        refine lp hl236 (fun s239 a w => St [] W H [K11, H] [(1, cel b13 113 [.int .u8 0, .int .i64 0])] w ∧ Has [] 83 a [(1, .string (bs s_1)), (2, .pointer (some q10)), (4, .pointer (some (⟨b13, 0, none⟩))), (8, .int .i64 (s239 : Int))]) ?_ ?_
        · intro a w hS hA
          exact ⟨hS, hA.cut ⟨rfl, rfl, rfl, rfl, trivial⟩⟩
        · rintro j s239 y242 hr240 hz241 a w ⟨hS, hA⟩
          refine TG.ap ?_ hS hA
          unfold m57_4 at hr240
          refine sq ?_
          refine sq ?_
          refine rg ?_
          refine mv rfl rfl ?_
          refine fb 2 Tryz.underlying26 rfl rfl rfl rfl Tryz.sizeOf24 ?_
          refine ld Tryz.isAgg24 rfl rfl ((sS 0 rfl hK12).drop 2) rfl ?_
          refine lnL Tryz.underlying24 rfl rfl ?_
          refine ltI rfl rfl rfl ?_
          refine on ?_
          refine ci rfl (fun hc246 => ?_) (fun hc246 => ?_)
          · have hr247 := if_p hc246 hr240
            refine sk ?_
            refine sq ?_
            refine bk ?_
            refine sq ?_
            refine rg ?_
            refine fb 2 Tryz.underlying26 rfl rfl rfl rfl Tryz.sizeOf24 ?_
            refine ld Tryz.isAgg24 rfl rfl ((sS 0 rfl hK12).drop 2) rfl ?_
            refine mv rfl rfl ?_
            obtain ⟨x259, hx260, hr261⟩ := bd_some hr247
            obtain ⟨p262, rfl⟩ := hl9.adr hx260
            obtain ⟨cs263, hcs264, hq265, hr266⟩ := hl9.at hx260
            obtain rfl := hr266
            refine iaP Tryz.underlying24 Tryz.sizeOf9 rfl rfl rfl rfl (lt_of hx260) ?_
            refine ld Tryz.isAgg9 rfl rfl (sS 1 rfl hq265) rfl ?_
            refine mv rfl rfl ?_
            refine eqS rfl rfl rfl ?_
            refine on ?_
            refine ci rfl (fun hc270 => ?_) (fun hc270 => ?_)
            · have hr271 := if_p hc270 hr261
              refine sq ?_
              refine rg ?_
              refine bu (cs := [.int .u8 3, .int .i64 0]) T4.B113 rfl rfl rfl ?_
              refine sto 1 (cs := [.int .u8 3, .int .i64 0]) Tryz.sizeOf113 rfl rfl rfl rfl rfl rfl rfl ?_
              refine on ?_
              refine rt_ ?_
              obtain rfl := Option.some.inj hr271
              obtain rfl := Fin.out hz241
              obtain rfl := Option.some.inj hr237
              intro a w hS hA
              refine rc1 hA rfl (ResAt.cell rfl (loadsA Tryz.isAgg113 Tryz.sizeOf113 (cell_at (hS.get (t := 1) rfl)) rfl)) ?_
              exact ⟨rfl, hS.ext⟩
            · have hr272 := if_n hc270 hr261
              refine sk ?_
              refine rg ?_
              refine mv rfl rfl ?_
              refine adI rfl rfl rfl (by omega) ?_
              refine av rfl rfl ?_
              refine on ?_
              obtain rfl := Option.some.inj hr272
              intro a w hS hA
              exact ⟨_, hz241, hS, hA.cut ⟨rfl, rfl, rfl, rfl, trivial⟩⟩
          · have hr273 := if_n hc246 hr240
            refine xt rfl ?_
            obtain rfl := Option.some.inj hr273
            obtain rfl := Fin.out hz241
            intro a w hS hA
            exact ⟨_, rfl, hS, hA.cut ⟨rfl, rfl, trivial⟩⟩
      · rintro a w ⟨t238, rfl, hS, hA⟩
        refine TG.ap ?_ hS hA
        refine sq ?_
        refine sq ?_
        refine rg ?_
        refine mv rfl rfl ?_
        obtain ⟨r274, hx275, hr276⟩ := bd_some hr237
        refine clS Tryz.call81 rfl rfl rfl rfl (fun w H hH le => w81 s_1 hx275) ?_
        refine av rfl rfl ?_
        refine on ?_
        refine sq ?_
        refine rg ?_
        refine mv rfl rfl ?_
        refine geI rfl rfl rfl ?_
        refine on ?_
        refine ci rfl (fun hc280 => ?_) (fun hc280 => ?_)
        · have hr281 := if_p hc280 hr276
          refine sq ?_
          refine rg ?_
          refine mv rfl rfl ?_
          refine bu (cs := [.int .u8 1, .int .i64 r274]) T4.B113 rfl rfl rfl ?_
          refine sto 1 (cs := [.int .u8 1, .int .i64 r274]) Tryz.sizeOf113 rfl rfl rfl rfl rfl rfl rfl ?_
          refine on ?_
          refine rt_ ?_
          obtain rfl := Option.some.inj hr281
          intro a w hS hA
          refine rc1 hA rfl (ResAt.cell rfl (loadsA Tryz.isAgg113 Tryz.sizeOf113 (cell_at (hS.get (t := 1) rfl)) rfl)) ?_
          exact ⟨rfl, hS.ext⟩
        · have hr282 := if_n hc280 hr276
          refine sk ?_
          refine sq ?_
          refine rg ?_
          refine bu (cs := [.int .u8 0, .int .i64 0]) T4.B113 rfl rfl rfl ?_
          refine sto 1 (cs := [.int .u8 0, .int .i64 0]) Tryz.sizeOf113 rfl rfl rfl rfl rfl rfl rfl ?_
          refine on ?_
          refine rt_ ?_
          obtain rfl := Option.some.inj hr282
          intro a w hS hA
          refine rc1 hA rfl (ResAt.cell rfl (loadsA Tryz.isAgg113 Tryz.sizeOf113 (cell_at (hS.get (t := 1) rfl)) rfl)) ?_
          exact ⟨rfl, hS.ext⟩

theorem w25 {W : World} {H : Hp} (hH : H.le (hp W)) {cs_l_0 : List Value} (l_0 : Lexicon) (h_l_0 : (RLexicon) H cs_l_0 l_0) {ad_texts : Option Addr} {cap_texts : Nat} {texts : List Bytes} (h_texts : Sl (Flat encS) 1 H ad_texts cap_texts texts) {r : List Mark} (hr : m25 l_0 texts = some r) : Calls Tryz.prog 25 [.agg cs_l_0.toArray, .slice ad_texts texts.length cap_texts].toArray W (RetK H W (fun v K => ∃ (ad0 : Option Addr) (cap0 : Nat), v = .slice ad0 r.length cap0 ∧ Sl (Flat encMark) 2 K ad0 cap0 r)) := by
  have hh_l_0 := h_l_0
  obtain ⟨ad1, cap2, ad4, cap5, ad7, cap8, rfl, hl3, hl6, hl9⟩ := h_l_0
  have := hl3.len
  have := hl6.len
  have := hl9.len
  have := h_texts.len
  unfold m25 at hr
  refine enterG Tryz.func25 rfl Tryz.ntmps25 rfl hH ?_
  refine sq ?_
  refine rg ?_
  refine bI (cs := [.slice ad1 l_0.numbers.length cap2, .slice ad4 l_0.names.length cap5, .slice ad7 l_0.nots.length cap8]) rfl rfl rfl fun q10 K11 hK12 => ?_
  refine av rfl rfl ?_
  refine on ?_
  refine sq ?_
  refine rg ?_
  refine av rfl rfl ?_
  refine on ?_
  refine sq ?_
  refine sq ?_
  refine rg ?_
  refine av rfl rfl ?_
  refine on ?_
  refine TG.nilRow 3 113 2 ?_
  refine TG.as 3 (z := Own.list none 0 113 2 encMark ([] : List Mark)) rfl rfl ?_
  obtain ⟨e111, hl112, hr113⟩ := bd_some hr
  refine jn (fun a w => ∃ (ad114 : Option Addr) (cap115 : Nat), St [] W H [K11, H] [(3, Own.list ad114 cap115 113 2 encMark e111)] w ∧ Has [] 28 a [(5, .slice ad114 e111.length cap115)]) ?_ ?_
  · refine bk ?_
    refine lp hl112 (fun s116 a w => ∃ (ad117 : Option Addr) (cap118 : Nat), St [] W H [K11, H] [(3, Own.list ad117 cap118 113 2 encMark s116.2)] w ∧ Has [] 28 a [(1, .slice ad_texts texts.length cap_texts), (2, .pointer (some q10)), (5, .slice ad117 s116.2.length cap118), (6, .int .i64 (s116.1 : Int))]) ?_ ?_
    · intro a w hS hA
      exact ⟨none, 0, hS, hA.cut ⟨rfl, rfl, rfl, rfl, trivial⟩⟩
    · rintro j s116 y121 hr119 hz120 a w ⟨ad117, cap118, hS, hA⟩
      refine TG.ap ?_ hS hA
      unfold m25_1 at hr119
      refine sq ?_
      refine sq ?_
      refine rg ?_
      refine mv rfl rfl ?_
      refine mv rfl rfl ?_
      refine lnL Tryz.underlying24 rfl rfl ?_
      refine ltI rfl rfl rfl ?_
      refine on ?_
      refine ci rfl (fun hc125 => ?_) (fun hc125 => ?_)
      · have hr126 := if_p hc125 hr119
        refine sk ?_
        refine sq ?_
        refine bk ?_
        refine sq ?_
        obtain ⟨x151, hx152, hr153⟩ := bd_some hr126
        obtain ⟨p154, rfl⟩ := h_texts.adr hx152
        obtain ⟨cs155, hcs156, hq157, hr158⟩ := h_texts.at hx152
        obtain rfl := hr158
        obtain ⟨r159, hx160, hr161⟩ := bd_some hr153
        refine drG2 7 6 T4.mixed (by kernel_rfl) rfl rfl ?_
        refine DG.detA rfl rfl rfl (fun τ a w K hS hA hF => TG.pa hS hA (ldA Tryz.isAgg26 Tryz.sizeOf26 rfl rfl (sS 1 rfl hK12) rfl fin1)) ?_
        refine DG.detA rfl rfl rfl (fun τ a w K hS hA hF => TG.pa hS hA (mv rfl rfl fin1)) ?_
        refine DG.detA rfl rfl rfl (fun τ a w K hS hA hF => TG.pa hS hA (mv rfl rfl fin1)) ?_
        refine DG.detA rfl rfl rfl (fun τ a w K hS hA hF => TG.pa hS hA (iaP Tryz.underlying24 Tryz.sizeOf9 rfl rfl rfl rfl (lt_of hx152) fin1)) ?_
        refine DG.detA rfl rfl rfl (fun τ a w K hS hA hF => TG.pa hS hA (ld Tryz.isAgg9 rfl rfl (sS 2 rfl hq157) rfl fin1)) ?_
        refine DG.detA rfl rfl rfl (fun τ a w K hS hA hF => TG.pa hS hA (clS Tryz.call57 rfl rfl rfl rfl (fun w H hH le => w57 hH l_0 (RLexicon.mono _ _ _ _ (le.at 2 rfl) hh_l_0) x151 hx160) fin1)) ?_
        refine DG.turn (α := Nat) 0 (fun b162 => .pointer (some (⟨b162, 0, none⟩))) (fun _ _ => True) (fun b162 => [(1, cel b162 113 [.int .u8 0, .int .i64 0]), (3, Own.list ad117 cap118 113 2 encMark s116.2)]) rfl (fun _ _ _ _ h => h) (by kernel_rfl) rfl rfl (fun a w K hS hA hF => TG.pa hS hA (al 1 (cs := [.int .u8 0, .int .i64 0]) Tryz.zeroValue113 rfl rfl fun b162 => finT (f := fun b162 => .pointer (some (⟨b162, 0, none⟩))) (G := fun _ _ => True) (σ1 := fun b162 => [(1, cel b162 113 [.int .u8 0, .int .i64 0]), (3, Own.list ad117 cap118 113 2 encMark s116.2)]) b162 trivial)) fun b162 => ?_
        refine DG.nil fun K163 hF => ?_
        obtain ⟨_, _⟩ := hF
        refine sto 1 (cs := [.int .u8 r159.kind, .int .i64 r159.value]) Tryz.sizeOf113 rfl rfl rfl rfl rfl rfl rfl ?_
        refine on ?_
        refine sq ?_
        refine rg ?_
        refine fb 0 Tryz.underlying113 rfl rfl rfl rfl Tryz.sizeOf5 ?_
        refine ld Tryz.isAgg5 rfl rfl ((sO 1 rfl).take 1) rfl ?_
        refine neI rfl rfl rfl ?_
        refine on ?_
        obtain ⟨t172, hx173, hr174⟩ := bd_some hr161
        refine jn (fun a w => ∃ (ad175 : Option Addr) (cap176 : Nat), St [] W H [K163, K11, H] [(1, cel b162 113 [.int .u8 r159.kind, .int .i64 r159.value]), (3, Own.list ad175 cap176 113 2 encMark t172)] w ∧ Has [] 28 a [(1, .slice (some p154) texts.length cap_texts), (2, .pointer (some q10)), (5, .slice ad175 t172.length cap176), (6, .int .i64 (s116.1 : Int))]) ?_ ?_
        · refine ci rfl (fun hc177 => ?_) (fun hc177 => ?_)
          · have hr178 := if_p hc177 hx173
            refine rg ?_
            refine mv rfl rfl ?_
            refine ldA Tryz.isAgg113 Tryz.sizeOf113 rfl rfl (sO 1 rfl) rfl ?_
            obtain ⟨hk179, hr180⟩ := chk_some hr178
            have := lenA s116.2 [r159]
            refine ap1 3 encMark (l := s116.2) r159 T4.E44 rfl rfl rfl rfl rfl rfl rfl rfl rfl rfl rfl rfl hk179 fun ad181 cap182 u183 => ?_
            refine av rfl rfl ?_
            refine on ?_
            obtain rfl := Option.some.inj hr180
            intro a w hS hA
            exact ⟨ad181, cap182, hS, hA.cut ⟨rfl, rfl, rfl, rfl, trivial⟩⟩
          · have hr184 := if_n hc177 hx173
            refine sk ?_
            obtain rfl := Option.some.inj hr184
            intro a w hS hA
            exact ⟨ad117, cap118, hS, hA.cut ⟨rfl, rfl, rfl, rfl, trivial⟩⟩
        · rintro a w ⟨ad175, cap176, hS, hA⟩
          refine TG.ap ?_ hS hA
          refine rg ?_
          refine mv rfl rfl ?_
          refine adI rfl rfl rfl (by omega) ?_
          refine av rfl rfl ?_
          refine on ?_
          refine TG.del 1 ?_
          obtain rfl := Option.some.inj hr174
          intro a w hS hA
          exact ⟨_, hz120, ad175, cap176, hS.selH [1, 2] rfl, hA.cut ⟨rfl, rfl, rfl, rfl, trivial⟩⟩
      · have hr185 := if_n hc125 hr119
        refine xt rfl ?_
        obtain rfl := Option.some.inj hr185
        obtain rfl := Fin.out hz120
        intro a w hS hA
        exact ⟨ad117, cap118, hS, hA.cut ⟨rfl, trivial⟩⟩
  · rintro a w ⟨ad114, cap115, hS, hA⟩
    refine TG.ap ?_ hS hA
    refine sq ?_
    refine rg ?_
    refine mv rfl rfl ?_
    refine av rfl rfl ?_
    refine on ?_
    refine rt_ ?_
    obtain rfl := Option.some.inj hr113
    intro a w hS hA
    refine ret1 hA rfl rfl ?_
    exact ⟨⟨_, _, rfl, (hS.listOut 3 rfl (fun _ => rfl))⟩, hS.ext⟩

theorem w40 {W : World} {H : Hp} (hH : H.le (hp W)) {cs_l_0 : List Value} (l_0 : Lexicon) (h_l_0 : (RLexicon) H cs_l_0 l_0) {r : Int} (hr : m40 l_0 = some r) : Calls Tryz.prog 40 [.agg cs_l_0.toArray].toArray W (RetS W (.int .i64 r)) := by
  have hh_l_0 := h_l_0
  obtain ⟨ad1, cap2, ad4, cap5, ad7, cap8, rfl, hl3, hl6, hl9⟩ := h_l_0
  have := hl3.len
  have := hl6.len
  have := hl9.len
  unfold m40 at hr
  refine enterG Tryz.func40 rfl Tryz.ntmps40 rfl hH ?_
  refine sq ?_
  refine rg ?_
  refine bI (cs := [.slice ad1 l_0.numbers.length cap2, .slice ad4 l_0.names.length cap5, .slice ad7 l_0.nots.length cap8]) rfl rfl rfl fun q10 K11 hK12 => ?_
  refine av rfl rfl ?_
  refine on ?_
  refine sq ?_
  refine rg ?_
  refine ldA Tryz.isAgg36 Tryz.sizeOf36 rfl rfl (sS 0 rfl hK12) rfl ?_
  obtain ⟨r13, hx14, hr15⟩ := bd_some hr
  refine clK Tryz.call58 rfl rfl rfl rfl (fun w H hH le => w58 hH l_0 (RLexicon.mono _ _ _ _ (le.at 1 rfl) hh_l_0) hx14) ?_
  rintro v_ K16 ⟨mp17, rfl, hm18⟩
  refine mv rfl rfl ?_
  refine ex rfl rfl rfl ?_
  refine ex rfl rfl rfl ?_
  refine av rfl rfl ?_
  refine av rfl rfl ?_
  refine on ?_
  refine sq ?_
  refine rg ?_
  refine mv rfl rfl ?_
  refine av rfl rfl ?_
  refine on ?_
  refine rt_ ?_
  obtain rfl := Option.some.inj hr15
  intro a w hS hA
  refine ret1 hA rfl rfl ?_
  exact ⟨rfl, hS.ext⟩

theorem w9 {W : World} {H : Hp} (hH : H.le (hp W)) (hg : Gv H) {cs_l_0 : List Value} (l_0 : Lexicon) (h_l_0 : (RLexicon) H cs_l_0 l_0) {ad_list : Option Addr} {cap_list : Nat} {list : List Bytes} (h_list : Sl (Flat encS) 1 H ad_list cap_list list) {r : Bool} (hr : m9 l_0 list = some r) : Calls Tryz.prog 9 [.agg cs_l_0.toArray, .slice ad_list list.length cap_list].toArray W (RetS W (.bool r)) := by
  have hh_l_0 := h_l_0
  obtain ⟨ad1, cap2, ad4, cap5, ad7, cap8, rfl, hl3, hl6, hl9⟩ := h_l_0
  have := hl3.len
  have := hl6.len
  have := hl9.len
  have := h_list.len
  unfold m9 at hr
  refine enterG Tryz.func9 rfl Tryz.ntmps9 rfl hH ?_
  refine sq ?_
  refine rg ?_
  refine bI (cs := [.slice ad1 l_0.numbers.length cap2, .slice ad4 l_0.names.length cap5, .slice ad7 l_0.nots.length cap8]) rfl rfl rfl fun q10 K11 hK12 => ?_
  refine av rfl rfl ?_
  refine on ?_
  refine sq ?_
  refine sq ?_
  obtain ⟨t22, hx23, hr24⟩ := bd_some hr
  refine jn (fun a w => St [] W H [K11, H] [] w ∧ Has [] 63 a [(1, .slice ad_list list.length cap_list), (2, .pointer (some q10)), (16, .bool t22)]) ?_ ?_
  · refine rg ?_
    refine ldA Tryz.isAgg26 Tryz.sizeOf26 rfl rfl (sS 0 rfl hK12) rfl ?_
    obtain ⟨r25, hx26, hr27⟩ := bd_some hx23
    refine clS Tryz.call15 rfl rfl rfl rfl (fun w H hH le => w15 hH l_0 (RLexicon.mono _ _ _ _ (le.at 1 rfl) hh_l_0) (swaps := []) (Sl.nil _ _ _ _ _ (by decide)) hx26) ?_
    refine nt rfl rfl ?_
    refine mv rfl rfl ?_
    rcases Bool.eq_false_or_eq_true (r25) with hb28 | hb28
    · have hr29 := if_p hb28 hr27
      refine gN rfl rfl (congrArg not (hb28)) ?_
      refine mv rfl rfl ?_
      refine gN rfl rfl (congrArg not (hb28)) ?_
      obtain ⟨r30, hx31, hr32⟩ := bd_some hr29
      refine clS Tryz.call16 rfl rfl rfl rfl (fun w H hH le => w16 hH (h_list.mono (Flat.mono _) (le.at 1 rfl)) 90 hx31) ?_
      refine gN rfl rfl (congrArg not (hb28)) ?_
      refine nt rfl rfl ?_
      refine pF rfl rfl (congrArg not (hb28)) rfl ?_
      refine on ?_
      obtain rfl := Option.some.inj hr32
      intro a w hS hA
      exact ⟨hS, hA.cut ⟨rfl, rfl, rfl, trivial⟩⟩
    · have hr33 := if_f hb28 hr27
      refine gF rfl rfl (congrArg not (hb28)) rfl ?_
      refine gF rfl rfl (congrArg not (hb28)) rfl ?_
      refine gF rfl rfl (congrArg not (hb28)) rfl ?_
      refine pT rfl rfl (congrArg not (hb28)) rfl ?_
      refine on ?_
      obtain rfl := Option.some.inj hr33
      intro a w hS hA
      exact ⟨hS, hA.cut ⟨rfl, rfl, rfl, trivial⟩⟩
  · rintro a w ⟨hS, hA⟩
    refine TG.ap ?_ hS hA
    refine cb rfl (fun hc40 => ?_) (fun hc40 => ?_)
    · have hr41 := if_p hc40 hr24
      refine sq ?_
      refine rg ?_
      obtain ⟨r42, hx43, hr44⟩ := bd_some hr41
      refine clS Tryz.call17 rfl rfl rfl rfl (fun w H hH le => w17 hH (hg.mono (le.at 1 rfl))  hx43) ?_
      refine av rfl rfl ?_
      refine on ?_
      refine rt_ ?_
      obtain rfl := Option.some.inj hr44
      intro a w hS hA
      refine ret1 hA rfl rfl ?_
      exact ⟨rfl, hS.ext⟩
    · have hr45 := if_f hc40 hr24
      refine sk ?_
      refine sq ?_
      refine rg ?_
      refine ldA Tryz.isAgg26 Tryz.sizeOf26 rfl rfl (sS 0 rfl hK12) rfl ?_
      obtain ⟨r46, hx47, hr48⟩ := bd_some hr45
      refine clK Tryz.call19 rfl rfl rfl rfl (fun w H hH le => w19 hH l_0 (RLexicon.mono _ _ _ _ (le.at 1 rfl) hh_l_0) hx47) ?_
      rintro v_ K49 ⟨cs50, rfl, hr51⟩
      have hr52 := hr51
      obtain ⟨ad53, cap54, ad56, cap57, ad59, cap60, rfl, hl55, hl58, hl61⟩ := hr51
      have := hl55.len
      have := hl58.len
      have := hl61.len
      obtain ⟨r62, hx63, hr64⟩ := bd_some hr48
      refine clS Tryz.call40 rfl rfl rfl rfl (fun w H hH le => w40 hH r46 (RLexicon.mono _ _ _ _ (le.at 0 rfl) hr52) hx63) ?_
      refine av rfl rfl ?_
      refine on ?_
      refine sq ?_
      refine rg ?_
      refine ldA Tryz.isAgg26 Tryz.sizeOf26 rfl rfl (sS 1 rfl hK12) rfl ?_
      refine clK Tryz.call19 rfl rfl rfl rfl (fun w H hH le => w19 hH l_0 (RLexicon.mono _ _ _ _ (le.at 2 rfl) hh_l_0) hx47) ?_
      rintro v_ K65 ⟨cs66, rfl, hr67⟩
      have hr68 := hr67
      obtain ⟨ad69, cap70, ad72, cap73, ad75, cap76, rfl, hl71, hl74, hl77⟩ := hr67
      have := hl71.len
      have := hl74.len
      have := hl77.len
      refine mv rfl rfl ?_
      obtain ⟨r78, hx79, hr80⟩ := bd_some hr64
      refine clK Tryz.call21 rfl rfl rfl rfl (fun w H hH le => w21 hH (h_list.mono (Flat.mono _) (le.at 3 rfl)) hx79) ?_
      rintro v_ K81 ⟨ad82, cap83, rfl, hl84⟩
      have := hl84.len
      obtain ⟨r85, hx86, hr87⟩ := bd_some hr80
      refine clK Tryz.call26 rfl rfl rfl rfl (fun w H hH le => w26 hH (hg.mono (le.at 4 rfl)) r46 (RLexicon.mono _ _ _ _ (le.at 1 rfl) hr68) (hl84.mono (Flat.mono _) (le.at 0 rfl)) hx86) ?_
      rintro v_ K88 ⟨ad89, cap90, rfl, hl91⟩
      have := hl91.len
      refine mv rfl rfl ?_
      refine ex rfl rfl rfl ?_
      refine ex rfl rfl rfl ?_
      refine av rfl rfl ?_
      refine av rfl rfl ?_
      refine on ?_
      refine sq ?_
      refine rg ?_
      refine ldA Tryz.isAgg26 Tryz.sizeOf26 rfl rfl (sS 4 rfl hK12) rfl ?_
      obtain ⟨r92, hx93, hr94⟩ := bd_some hr87
      refine clS Tryz.call34 rfl rfl rfl rfl (fun w H hH le => w34 hH l_0 (RLexicon.mono _ _ _ _ (le.at 5 rfl) hh_l_0) hx93) ?_
      refine av rfl rfl ?_
      refine on ?_
      refine sq ?_
      refine sq ?_
      refine rg ?_
      refine mv rfl rfl ?_
      refine mv rfl rfl ?_
      refine neI rfl rfl rfl ?_
      refine on ?_
      refine ci rfl (fun hc98 => ?_) (fun hc98 => ?_)
      · have hr99 := if_p hc98 hr94
        refine sq ?_
        refine rg ?_
        refine av rfl rfl ?_
        refine on ?_
        refine rt_ ?_
        obtain rfl := Option.some.inj hr99
        intro a w hS hA
        refine ret1 hA rfl rfl ?_
        exact ⟨rfl, hS.ext⟩
      · have hr100 := if_n hc98 hr94
        refine sk ?_
        refine sq ?_
        refine sq ?_
        refine rg ?_
        refine mv rfl rfl ?_
        refine eqI rfl rfl rfl ?_
        refine on ?_
        obtain ⟨t107, hx108, hr109⟩ := bd_some hr100
        refine jn (fun a w => St [] W H [K88, K81, K65, K49, K11, H] [] w ∧ Has [] 63 a [(1, .slice ad_list list.length cap_list), (2, .pointer (some q10)), (6, .slice ad89 r85.1.length cap90), (7, .int .i64 r85.2), (8, .int .i64 t107)]) ?_ ?_
        · refine ci rfl (fun hc110 => ?_) (fun hc110 => ?_)
          · have hr111 := if_p hc110 hx108
            refine rg ?_
            refine mv rfl rfl ?_
            obtain ⟨r112, hx113, hr114⟩ := bd_some hr111
            refine clS Tryz.call23 rfl rfl rfl rfl (fun w H hH le => w23 hH (h_list.mono (Flat.mono _) (le.at 5 rfl)) hx113) ?_
            refine av rfl rfl ?_
            refine on ?_
            obtain rfl := Option.some.inj hr114
            intro a w hS hA
            exact ⟨hS, hA.cut ⟨rfl, rfl, rfl, rfl, rfl, trivial⟩⟩
          · have hr115 := if_n hc110 hx108
            refine sk ?_
            obtain rfl := Option.some.inj hr115
            intro a w hS hA
            exact ⟨hS, hA.cut ⟨rfl, rfl, rfl, rfl, rfl, trivial⟩⟩
        · rintro a w ⟨hS, hA⟩
          refine TG.ap ?_ hS hA
          refine sq ?_
          refine sq ?_
          refine rg ?_
          refine mv rfl rfl ?_
          refine neI rfl rfl rfl ?_
          refine on ?_
          refine ci rfl (fun hc129 => ?_) (fun hc129 => ?_)
          · have hr130 := if_p hc129 hr109
            refine sq ?_
            obtain ⟨t140, hx141, hr142⟩ := bd_some hr130
            refine jn (fun a w => St [] W H [K88, K81, K65, K49, K11, H] [] w ∧ Has [] 63 a [(4, .bool t140)]) ?_ ?_
            · refine rg ?_
              refine mv rfl rfl ?_
              refine mv rfl rfl ?_
              refine eqI rfl rfl rfl ?_
              refine mv rfl rfl ?_
              by_cases hb143 : r85.2 = t107
              · have hr144 := if_p hb143 hx141
                refine gN rfl rfl (decide_eq_true hb143) ?_
                refine mv rfl rfl ?_
                refine gN rfl rfl (decide_eq_true hb143) ?_
                refine lnL Tryz.underlying49 rfl rfl ?_
                refine gN rfl rfl (decide_eq_true hb143) ?_
                refine eqI rfl rfl rfl ?_
                refine pT rfl rfl (decide_eq_true hb143) rfl ?_
                refine mv rfl rfl ?_
                by_cases hb145 : (r85.1.length : Int) = 0
                · have hr146 := if_p hb145 hr144
                  refine gN rfl rfl (decide_eq_true hb145) ?_
                  obtain ⟨r147, hx148, hr149⟩ := bd_some hr146
                  refine clS Tryz.call17 rfl rfl rfl rfl (fun w H hH le => w17 hH (hg.mono (le.at 5 rfl))  hx148) ?_
                  refine pT rfl rfl (decide_eq_true hb145) rfl ?_
                  refine av rfl rfl ?_
                  refine on ?_
                  obtain rfl := Option.some.inj hr149
                  intro a w hS hA
                  exact ⟨hS, hA.cut ⟨rfl, trivial⟩⟩
                · have hr150 := if_n hb145 hr144
                  refine gF rfl rfl (decide_eq_false hb145) rfl ?_
                  refine pF rfl rfl (decide_eq_false hb145) rfl ?_
                  refine av rfl rfl ?_
                  refine on ?_
                  obtain rfl := Option.some.inj hr150
                  intro a w hS hA
                  exact ⟨hS, hA.cut ⟨rfl, trivial⟩⟩
              · have hr151 := if_n hb143 hx141
                refine gF rfl rfl (decide_eq_false hb143) rfl ?_
                refine gF rfl rfl (decide_eq_false hb143) rfl ?_
                refine gF rfl rfl (decide_eq_false hb143) rfl ?_
                refine pF rfl rfl (decide_eq_false hb143) rfl ?_
                refine mv rfl rfl ?_
                refine gF rfl rfl rfl rfl ?_
                refine pF rfl rfl rfl rfl ?_
                refine av rfl rfl ?_
                refine on ?_
                obtain rfl := Option.some.inj hr151
                intro a w hS hA
                exact ⟨hS, hA.cut ⟨rfl, trivial⟩⟩
            · rintro a w ⟨hS, hA⟩
              refine TG.ap ?_ hS hA
              refine rt_ ?_
              obtain rfl := Option.some.inj hr142
              intro a w hS hA
              refine ret1 hA rfl rfl ?_
              exact ⟨rfl, hS.ext⟩
          · have hr152 := if_n hc129 hr109
            refine sk ?_
            refine sq ?_
            obtain ⟨t172, hx173, hr174⟩ := bd_some hr152
            refine jn (fun a w => St [] W H [K88, K81, K65, K49, K11, H] [] w ∧ Has [] 63 a [(4, .bool t172)]) ?_ ?_
            · refine rg ?_
              refine mv rfl rfl ?_
              refine eqI rfl rfl rfl ?_
              refine mv rfl rfl ?_
              by_cases hb175 : r85.2 = 0
              · have hr176 := if_p hb175 hx173
                refine gN rfl rfl (decide_eq_true hb175) ?_
                refine mv rfl rfl ?_
                refine gN rfl rfl (decide_eq_true hb175) ?_
                refine ldA Tryz.isAgg26 Tryz.sizeOf26 rfl rfl (sS 4 rfl hK12) rfl ?_
                refine gN rfl rfl (decide_eq_true hb175) ?_
                refine mv rfl rfl ?_
                refine gN rfl rfl (decide_eq_true hb175) ?_
                obtain ⟨r177, hx178, hr179⟩ := bd_some hr176
                refine clK Tryz.call25 rfl rfl rfl rfl (fun w H hH le => w25 hH l_0 (RLexicon.mono _ _ _ _ (le.at 5 rfl) hh_l_0) (h_list.mono (Flat.mono _) (le.at 5 rfl)) hx178) ?_
                rintro v_ K180 ⟨ad181, cap182, rfl, hl183⟩
                have := hl183.len
                refine gN rfl rfl (decide_eq_true hb175) ?_
                obtain ⟨r184, hx185, hr186⟩ := bd_some hr179
                refine clS Tryz.call41 rfl rfl rfl rfl (fun w H hH le => w41 hH (hl91.mono (Flat.mono _) (le.at 1 rfl)) (hl183.mono (Flat.mono _) (le.at 0 rfl)) hx185) ?_
                refine pT rfl rfl (decide_eq_true hb175) rfl ?_
                refine mv rfl rfl ?_
                rcases Bool.eq_false_or_eq_true (r184) with hb187 | hb187
                · have hr188 := if_p hb187 hr186
                  refine gN rfl rfl (hb187) ?_
                  obtain ⟨r189, hx190, hr191⟩ := bd_some hr188
                  refine clS Tryz.call17 rfl rfl rfl rfl (fun w H hH le => w17 hH (hg.mono (le.at 6 rfl))  hx190) ?_
                  refine pT rfl rfl (hb187) rfl ?_
                  refine av rfl rfl ?_
                  refine on ?_
                  obtain rfl := Option.some.inj hr191
                  intro a w hS hA
                  exact ⟨hS.selH [1, 2, 3, 4, 5, 6] rfl, hA.cut ⟨rfl, trivial⟩⟩
                · have hr192 := if_f hb187 hr186
                  refine gF rfl rfl (hb187) rfl ?_
                  refine pF rfl rfl (hb187) rfl ?_
                  refine av rfl rfl ?_
                  refine on ?_
                  obtain rfl := Option.some.inj hr192
                  intro a w hS hA
                  exact ⟨hS.selH [1, 2, 3, 4, 5, 6] rfl, hA.cut ⟨rfl, trivial⟩⟩
              · have hr193 := if_n hb175 hx173
                refine gF rfl rfl (decide_eq_false hb175) rfl ?_
                refine gF rfl rfl (decide_eq_false hb175) rfl ?_
                refine gF rfl rfl (decide_eq_false hb175) rfl ?_
                refine gF rfl rfl (decide_eq_false hb175) rfl ?_
                refine gF rfl rfl (decide_eq_false hb175) rfl ?_
                refine pF rfl rfl (decide_eq_false hb175) rfl ?_
                refine mv rfl rfl ?_
                refine gF rfl rfl rfl rfl ?_
                refine pF rfl rfl rfl rfl ?_
                refine av rfl rfl ?_
                refine on ?_
                obtain rfl := Option.some.inj hr193
                intro a w hS hA
                exact ⟨hS, hA.cut ⟨rfl, trivial⟩⟩
            · rintro a w ⟨hS, hA⟩
              refine TG.ap ?_ hS hA
              refine rt_ ?_
              obtain rfl := Option.some.inj hr174
              intro a w hS hA
              refine ret1 hA rfl rfl ?_
              exact ⟨rfl, hS.ext⟩

end T4
