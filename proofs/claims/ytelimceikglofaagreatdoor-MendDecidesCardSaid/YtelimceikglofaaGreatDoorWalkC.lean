/-
 Walks of functions of layer 4: each call comes to what the model says. Printed by a program of ours.
-/
import Derived.Test.YtelimceikglofaaGreatDoorWalkB
set_option linter.all false
set_option maxHeartbeats 4000000
namespace T4
open Go Go.Proofs Pk
theorem w22 {W : World} {H : Hp} (hH : H.le (hp W)) {cs_l_0 : List Value} (l_0 : Lexicon) (h_l_0 : (RLexicon) H cs_l_0 l_0) {ad_swaps : Option Addr} {cap_swaps : Nat} {swaps : List Swap} (h_swaps : Sl (Flat encSwap) 3 H ad_swaps cap_swaps swaps) {r : Int} (hr : m22 l_0 swaps = some r) : Calls Tryz.prog 22 [.agg cs_l_0.toArray, .slice ad_swaps swaps.length cap_swaps].toArray W (RetS W (.int .i64 r)) := by
 have hh_l_0 := h_l_0
 obtain ⟨ad1, cap2, ad4, cap5, ad7, cap8, rfl, hl3, hl6, hl9⟩ := h_l_0
 have := hl3.len
 have := hl6.len
 have := hl9.len
 have := h_swaps.len
 unfold m22 at hr
 refine enterG Tryz.func22 rfl Tryz.ntmps22 rfl hH ?_
 refine sq ?_
 refine rg ?_
 refine bI (cs := [.slice ad1 l_0.numbers.length cap2, .slice ad4 l_0.names.length cap5, .slice ad7 l_0.nots.length cap8]) rfl rfl rfl fun q10 K11 hK12 => ?_
 refine av rfl rfl ?_
 refine on ?_
 refine sq ?_
 refine sq ?_
 refine rg ?_
 refine ldA Tryz.isAgg26 Tryz.sizeOf26 rfl rfl (sS 0 rfl hK12) rfl ?_
 obtain ⟨r13, hx14, hr15⟩ := bd_some hr
 refine clS Tryz.call34 rfl rfl rfl rfl (fun w H hH le => w34 hH l_0 (RLexicon.mono _ _ _ _ (le.at 1 rfl) hh_l_0) hx14) ?_
 refine av rfl rfl ?_
 refine on ?_
 refine sq ?_
 refine rg ?_
 refine mv rfl rfl ?_
 refine neI rfl rfl rfl ?_
 refine on ?_
 refine ci rfl (fun hc19 => ?_) (fun hc19 => ?_)
 ·have hr20 := if_p hc19 hr15
  refine sq ?_
  refine rg ?_
  refine mv rfl rfl ?_
  refine av rfl rfl ?_
  refine on ?_
  refine rt_ ?_
  obtain rfl := Option.some.inj hr20
  intro a w hS hA
  refine ret1 hA rfl rfl ?_
  exact ⟨rfl, hS.ext⟩
 ·have hr21 := if_n hc19 hr15
  refine sk ?_
  refine sq ?_
  refine rg ?_
  refine mv rfl rfl ?_
  obtain ⟨r22, hx23, hr24⟩ := bd_some hr21
  refine clS Tryz.call27 rfl rfl rfl rfl (fun w H hH le => w27 hH (h_swaps.mono (Flat.mono _) (le.at 1 rfl)) hx23) ?_
  refine av rfl rfl ?_
  refine on ?_
  refine rt_ ?_
  obtain rfl := Option.some.inj hr24
  intro a w hS hA
  refine ret1 hA rfl rfl ?_
  exact ⟨rfl, hS.ext⟩

theorem w81 {W : World} (s_0 : Bytes) {r : Int} (hr : m81 s_0 = some r) : Calls Tryz.prog 81 [.string (bs s_0)].toArray W (RetS W (.int .i64 r)) := by
 unfold m81 at hr
 refine enterG Tryz.func81 rfl Tryz.ntmps81 rfl (Hp.le.refl _) ?_
 refine sq ?_
 refine rg ?_
 refine av rfl rfl ?_
 refine on ?_
 refine sq ?_
 refine sq ?_
 obtain ⟨t13, hx14, hr15⟩ := bd_some hr
 refine jn (fun a w => St [] W (hp W) [(hp W)] [] w ∧ Has [] 48 a [(0, .string (bs s_0)), (22, .bool t13)]) ?_ ?_
 ·refine rg ?_
  refine mv rfl rfl ?_
  refine lnS Tryz.underlying9 rfl rfl ?_
  refine ltI rfl rfl rfl ?_
  refine mv rfl rfl ?_
  by_cases hb16 : (s_0.length : Int) < 1
  ·have hr17 := if_p hb16 hx14
   refine gF rfl rfl (decide_eq_true hb16) rfl ?_
   refine gF rfl rfl (decide_eq_true hb16) rfl ?_
   refine gF rfl rfl (decide_eq_true hb16) rfl ?_
   refine pT rfl rfl (decide_eq_true hb16) rfl ?_
   refine mv rfl rfl ?_
   refine gF rfl rfl rfl rfl ?_
   refine gF rfl rfl rfl rfl ?_
   refine gF rfl rfl rfl rfl ?_
   refine gF rfl rfl rfl rfl ?_
   refine gU rfl rfl rfl ?_
   refine gU rfl rfl rfl ?_
   refine gU rfl rfl rfl ?_
   refine gF rfl rfl rfl rfl ?_
   refine pT rfl rfl rfl rfl ?_
   refine on ?_
   obtain rfl := Option.some.inj hr17
   intro a w hS hA
   exact ⟨hS, hA.cut ⟨rfl, rfl, trivial⟩⟩
  ·have hr18 := if_n hb16 hx14
   refine gN rfl rfl (decide_eq_false hb16) ?_
   refine mv rfl rfl ?_
   refine gN rfl rfl (decide_eq_false hb16) ?_
   refine lnS Tryz.underlying9 rfl rfl ?_
   refine gN rfl rfl (decide_eq_false hb16) ?_
   refine gtI rfl rfl rfl ?_
   refine pF rfl rfl (decide_eq_false hb16) rfl ?_
   refine mv rfl rfl ?_
   by_cases hb19 : 9 < (s_0.length : Int)
   ·have hr20 := if_p hb19 hr18
    refine gF rfl rfl (decide_eq_true hb19) rfl ?_
    refine gF rfl rfl (decide_eq_true hb19) rfl ?_
    refine gF rfl rfl (decide_eq_true hb19) rfl ?_
    refine gF rfl rfl (decide_eq_true hb19) rfl ?_
    refine gU rfl rfl rfl ?_
    refine gU rfl rfl rfl ?_
    refine gU rfl rfl rfl ?_
    refine gF rfl rfl (decide_eq_true hb19) rfl ?_
    refine pT rfl rfl (decide_eq_true hb19) rfl ?_
    refine on ?_
    obtain rfl := Option.some.inj hr20
    intro a w hS hA
    exact ⟨hS, hA.cut ⟨rfl, rfl, trivial⟩⟩
   ·have hr21 := if_n hb19 hr18
    refine gN rfl rfl (decide_eq_false hb19) ?_
    refine mv rfl rfl ?_
    refine gN rfl rfl (decide_eq_false hb19) ?_
    obtain ⟨x22, hx23, hr24⟩ := bd_some hr21
    have := UInt8.toNat_lt x22
    refine ixS Tryz.underlying9 rfl rfl rfl rfl hx23 ?_
    refine gN rfl rfl (decide_eq_false hb19) ?_
    refine eqI rfl rfl rfl ?_
    refine gN rfl rfl (decide_eq_false hb19) ?_
    refine mv rfl rfl ?_
    by_cases hb25 : (x22.toNat : Int) = 48
    ·have hr26 := if_p hb25 hr24
     refine gN rfl rfl (decide_eq_true hb25) ?_
     refine mv rfl rfl ?_
     refine gN rfl rfl (decide_eq_true hb25) ?_
     refine lnS Tryz.underlying9 rfl rfl ?_
     refine gN rfl rfl (decide_eq_true hb25) ?_
     refine gtI rfl rfl rfl ?_
     refine gN rfl rfl (decide_eq_false hb19) ?_
     refine pT rfl rfl (decide_eq_true hb25) rfl ?_
     refine pF rfl rfl (decide_eq_false hb19) rfl ?_
     refine on ?_
     obtain rfl := Option.some.inj hr26
     intro a w hS hA
     exact ⟨hS, hA.cut ⟨rfl, rfl, trivial⟩⟩
    ·have hr27 := if_n hb25 hr24
     refine gF rfl rfl (decide_eq_false hb25) rfl ?_
     refine gF rfl rfl (decide_eq_false hb25) rfl ?_
     refine gF rfl rfl (decide_eq_false hb25) rfl ?_
     refine gN rfl rfl (decide_eq_false hb19) ?_
     refine pF rfl rfl (decide_eq_false hb25) rfl ?_
     refine pF rfl rfl (decide_eq_false hb19) rfl ?_
     refine on ?_
     obtain rfl := Option.some.inj hr27
     intro a w hS hA
     exact ⟨hS, hA.cut ⟨rfl, rfl, trivial⟩⟩
 ·rintro a w ⟨hS, hA⟩
  refine TG.ap ?_ hS hA
  refine cb rfl (fun hc31 => ?_) (fun hc31 => ?_)
  ·have hr32 := if_p hc31 hr15
   refine sq ?_
   refine rg ?_
   refine av rfl rfl ?_
   refine on ?_
   refine rt_ ?_
   obtain rfl := Option.some.inj hr32
   intro a w hS hA
   refine ret1 hA rfl rfl ?_
   exact ⟨rfl, hS.ext⟩
  ·have hr33 := if_f hc31 hr15
   refine sk ?_
   refine sq ?_
   refine rg ?_
   refine av rfl rfl ?_
   refine on ?_
   refine sq ?_
   refine sq ?_
   refine rg ?_
   refine av rfl rfl ?_
   refine on ?_
   obtain ⟨e84, hl85, hr86⟩ := bd_some hr33
   refine jn (fun a w => ∃ t87, e84 = .inl t87 ∧ St [] W (hp W) [(hp W)] [] w ∧ Has [] 48 a [(3, .int .i64 t87)]) ?_ ?_
   ·refine bk ?_
    refine lp hl85 (fun s88 a w => St [] W (hp W) [(hp W)] [] w ∧ Has [] 48 a [(0, .string (bs s_0)), (3, .int .i64 s88.2), (4, .int .i64 (s88.1 : Int))]) ?_ ?_
    ·intro a w hS hA
     exact ⟨hS, hA.cut ⟨rfl, rfl, rfl, trivial⟩⟩
    ·rintro j s88 y91 hr89 hz90 a w ⟨hS, hA⟩
     refine TG.ap ?_ hS hA
     unfold m81_1 at hr89
     refine sq ?_
     refine sq ?_
     refine rg ?_
     refine mv rfl rfl ?_
     refine mv rfl rfl ?_
     refine lnS Tryz.underlying9 rfl rfl ?_
     refine ltI rfl rfl rfl ?_
     refine on ?_
     refine ci rfl (fun hc95 => ?_) (fun hc95 => ?_)
     ·have hr96 := if_p hc95 hr89
      refine sk ?_
      refine sq ?_
      refine bk ?_
      refine sq ?_
      refine sq ?_
      obtain ⟨t122, hx123, hr124⟩ := bd_some hr96
      refine jn (fun a w => St [] W (hp W) [(hp W)] [] w ∧ Has [] 48 a [(0, .string (bs s_0)), (3, .int .i64 s88.2), (4, .int .i64 (s88.1 : Int)), (38, .bool t122)]) ?_ ?_
      ·refine rg ?_
       refine mv rfl rfl ?_
       refine mv rfl rfl ?_
       obtain ⟨x125, hx126, hr127⟩ := bd_some hx123
       have := UInt8.toNat_lt x125
       refine ixS Tryz.underlying9 rfl rfl rfl rfl hx126 ?_
       refine ltI rfl rfl rfl ?_
       refine mv rfl rfl ?_
       by_cases hb128 : (x125.toNat : Int) < 48
       ·have hr129 := if_p hb128 hr127
        refine gF rfl rfl (decide_eq_true hb128) rfl ?_
        refine gF rfl rfl (decide_eq_true hb128) rfl ?_
        refine gF rfl rfl (decide_eq_true hb128) rfl ?_
        refine gF rfl rfl (decide_eq_true hb128) rfl ?_
        refine pT rfl rfl (decide_eq_true hb128) rfl ?_
        refine on ?_
        obtain rfl := Option.some.inj hr129
        intro a w hS hA
        exact ⟨hS, hA.cut ⟨rfl, rfl, rfl, rfl, trivial⟩⟩
       ·have hr130 := if_n hb128 hr127
        refine gN rfl rfl (decide_eq_false hb128) ?_
        refine mv rfl rfl ?_
        refine gN rfl rfl (decide_eq_false hb128) ?_
        refine mv rfl rfl ?_
        refine gN rfl rfl (decide_eq_false hb128) ?_
        refine ixS Tryz.underlying9 rfl rfl rfl rfl hx126 ?_
        refine gN rfl rfl (decide_eq_false hb128) ?_
        refine gtI rfl rfl rfl ?_
        refine pF rfl rfl (decide_eq_false hb128) rfl ?_
        refine on ?_
        obtain rfl := Option.some.inj hr130
        intro a w hS hA
        exact ⟨hS, hA.cut ⟨rfl, rfl, rfl, rfl, trivial⟩⟩
      ·rintro a w ⟨hS, hA⟩
       refine TG.ap ?_ hS hA
       refine cb rfl (fun hc134 => ?_) (fun hc134 => ?_)
       ·have hr135 := if_p hc134 hr124
        refine sq ?_
        refine rg ?_
        refine av rfl rfl ?_
        refine on ?_
        refine rt_ ?_
        obtain rfl := Option.some.inj hr135
        obtain rfl := Fin.out hz90
        obtain rfl := Option.some.inj hr86
        intro a w hS hA
        refine ret1 hA rfl rfl ?_
        exact ⟨rfl, hS.ext⟩
       ·have hr136 := if_f hc134 hr124
        refine sk ?_
        refine rg ?_
        refine mv rfl rfl ?_
        obtain ⟨hk137, hr138⟩ := chk_some hr136
        refine mlI rfl rfl rfl hk137 ?_
        refine mv rfl rfl ?_
        refine mv rfl rfl ?_
        obtain ⟨x139, hx140, hr141⟩ := bd_some hr138
        have := UInt8.toNat_lt x139
        refine ixS Tryz.underlying9 rfl rfl rfl rfl hx140 ?_
        obtain ⟨hk142, hr143⟩ := chk_some hr141
        refine wrI ((x139.toNat : Int) - 48) rfl rfl rfl (wr_u8 hk142) ?_
        refine cvI Tryz.underlying5 Tryz.underlying3 rfl rfl (wr_i64 (by omega)) ?_
        obtain ⟨hk144, hr145⟩ := chk_some hr143
        refine adI rfl rfl rfl hk144 ?_
        refine av rfl rfl ?_
        refine on ?_
        refine rg ?_
        refine mv rfl rfl ?_
        obtain ⟨hk146, hr147⟩ := chk_some hr145
        refine adI rfl rfl rfl hk146 ?_
        refine av rfl rfl ?_
        refine on ?_
        obtain rfl := Option.some.inj hr147
        intro a w hS hA
        exact ⟨_, hz90, hS, hA.cut ⟨rfl, rfl, rfl, trivial⟩⟩
     ·have hr148 := if_n hc95 hr89
      refine xt rfl ?_
      obtain rfl := Option.some.inj hr148
      obtain rfl := Fin.out hz90
      intro a w hS hA
      exact ⟨_, rfl, hS, hA.cut ⟨rfl, trivial⟩⟩
   ·rintro a w ⟨t87, rfl, hS, hA⟩
    refine TG.ap ?_ hS hA
    refine sq ?_
    refine rg ?_
    refine mv rfl rfl ?_
    refine av rfl rfl ?_
    refine on ?_
    refine rt_ ?_
    obtain rfl := Option.some.inj hr86
    intro a w hS hA
    refine ret1 hA rfl rfl ?_
    exact ⟨rfl, hS.ext⟩

theorem w57 {W : World} {H : Hp} (hH : H.le (hp W)) {cs_l_0 : List Value} (l_0 : Lexicon) (h_l_0 : (RLexicon) H cs_l_0 l_0) (s_1 : Bytes) {r : Mark} (hr : m57 l_0 s_1 = some r) : Calls Tryz.prog 57 [.agg cs_l_0.toArray, .string (bs s_1)].toArray W (RetS W (.agg (encMark r).toArray)) := by
 have hh_l_0 := h_l_0
 obtain ⟨ad1, cap2, ad4, cap5, ad7, cap8, rfl, hl3, hl6, hl9⟩ := h_l_0
 have := hl3.len
 have := hl6.len
 have := hl9.len
 unfold m57 at hr
 refine enterG Tryz.func57 rfl Tryz.ntmps57 rfl hH ?_
 refine sq ?_
 refine rg ?_
 refine bI (cs := [.slice ad1 l_0.numbers.length cap2, .slice ad4 l_0.names.length cap5, .slice ad7 l_0.nots.length cap8]) rfl rfl rfl fun q10 K11 hK12 => ?_
 refine al 1 (cs := [.int .u8 0, .int .i64 0]) Tryz.zeroValue113 rfl rfl fun b13 => ?_
 refine on ?_
 refine sq ?_
 refine sq ?_
 refine rg ?_
 refine av rfl rfl ?_
 refine on ?_
 obtain ⟨e29, hl30, hr31⟩ := bd_some hr
 refine jn (fun a w => ∃ t32, e29 = .inl t32 ∧ St [] W H [K11, H] [(1, cel b13 113 [.int .u8 0, .int .i64 0])] w ∧ Has [] 83 a [(1, .string (bs s_1)), (2, .pointer (some q10)), (4, .pointer (some (⟨b13, 0, none⟩)))]) ?_ ?_
 ·refine bk ?_
  refine lp hl30 (fun s33 a w => St [] W H [K11, H] [(1, cel b13 113 [.int .u8 0, .int .i64 0])] w ∧ Has [] 83 a [(1, .string (bs s_1)), (2, .pointer (some q10)), (4, .pointer (some (⟨b13, 0, none⟩))), (5, .int .i64 (s33 : Int))]) ?_ ?_
  ·intro a w hS hA
   exact ⟨hS, hA.cut ⟨rfl, rfl, rfl, rfl, trivial⟩⟩
  ·rintro j s33 y36 hr34 hz35 a w ⟨hS, hA⟩
   refine TG.ap ?_ hS hA
   unfold m57_1 at hr34
   refine sq ?_
   refine sq ?_
   refine rg ?_
   refine mv rfl rfl ?_
   refine fb 0 Tryz.underlying26 rfl rfl rfl rfl Tryz.sizeOf22 ?_
   refine ld Tryz.isAgg22 rfl rfl ((sS 0 rfl hK12).take 1) rfl ?_
   refine lnL Tryz.underlying22 rfl rfl ?_
   refine ltI rfl rfl rfl ?_
   refine on ?_
   refine ci rfl (fun hc40 => ?_) (fun hc40 => ?_)
   ·have hr41 := if_p hc40 hr34
    refine sk ?_
    refine sq ?_
    refine bk ?_
    refine sq ?_
    refine rg ?_
    refine fb 0 Tryz.underlying26 rfl rfl rfl rfl Tryz.sizeOf22 ?_
    refine ld Tryz.isAgg22 rfl rfl ((sS 0 rfl hK12).take 1) rfl ?_
    refine mv rfl rfl ?_
    obtain ⟨x53, hx54, hr55⟩ := bd_some hr41
    obtain ⟨p56, rfl⟩ := hl3.adr hx54
    obtain ⟨cs57, hcs58, hq59, hr60⟩ := hl3.at hx54
    obtain rfl := hr60
    refine iaP Tryz.underlying22 Tryz.sizeOf112 rfl rfl rfl rfl (lt_of hx54) ?_
    refine fb 0 Tryz.underlying112 rfl rfl rfl rfl Tryz.sizeOf9 ?_
    refine ld Tryz.isAgg9 rfl rfl ((sS 1 rfl hq59).take 1) rfl ?_
    refine mv rfl rfl ?_
    refine eqS rfl rfl rfl ?_
    refine on ?_
    refine ci rfl (fun hc64 => ?_) (fun hc64 => ?_)
    ·have hr65 := if_p hc64 hr55
     refine sq ?_
     refine rg ?_
     refine fb 0 Tryz.underlying26 rfl rfl rfl rfl Tryz.sizeOf22 ?_
     refine ld Tryz.isAgg22 rfl rfl ((sS 0 rfl hK12).take 1) rfl ?_
     refine mv rfl rfl ?_
     refine iaP Tryz.underlying22 Tryz.sizeOf112 rfl rfl rfl rfl (lt_of hx54) ?_
     refine fb 1 Tryz.underlying112 rfl rfl rfl rfl Tryz.sizeOf3 ?_
     refine ld Tryz.isAgg3 rfl rfl ((sS 1 rfl hq59).drop 1) rfl ?_
     refine bu (cs := [.int .u8 1, .int .i64 x53.value]) T4.B113 rfl rfl rfl ?_
     refine sto 1 (cs := [.int .u8 1, .int .i64 x53.value]) Tryz.sizeOf113 rfl rfl rfl rfl rfl rfl rfl ?_
     refine on ?_
     refine rt_ ?_
     obtain rfl := Option.some.inj hr65
     obtain rfl := Fin.out hz35
     obtain rfl := Option.some.inj hr31
     intro a w hS hA
     refine rc1 hA rfl (ResAt.cell rfl (loadsA Tryz.isAgg113 Tryz.sizeOf113 (cell_at (hS.get (t := 1) rfl)) rfl)) ?_
     exact ⟨rfl, hS.ext⟩
    ·have hr66 := if_n hc64 hr55
     refine sk ?_
     refine rg ?_
     refine mv rfl rfl ?_
     refine adI rfl rfl rfl (by omega) ?_
     refine av rfl rfl ?_
     refine on ?_
     obtain rfl := Option.some.inj hr66
     intro a w hS hA
     exact ⟨_, hz35, hS, hA.cut ⟨rfl, rfl, rfl, rfl, trivial⟩⟩
   ·have hr67 := if_n hc40 hr34
    refine xt rfl ?_
    obtain rfl := Option.some.inj hr67
    obtain rfl := Fin.out hz35
    intro a w hS hA
    exact ⟨_, rfl, hS, hA.cut ⟨rfl, rfl, rfl, trivial⟩⟩
 ·rintro a w ⟨t32, rfl, hS, hA⟩
  refine TG.ap ?_ hS hA
  refine sq ?_
  refine sq ?_
  refine rg ?_
  refine av rfl rfl ?_
  refine on ?_
  obtain ⟨e100, hl101, hr102⟩ := bd_some hr31
  refine jn (fun a w => ∃ t103, e100 = .inl t103 ∧ St [] W H [K11, H] [(1, cel b13 113 [.int .u8 0, .int .i64 0])] w ∧ Has [] 83 a [(1, .string (bs s_1)), (2, .pointer (some q10)), (4, .pointer (some (⟨b13, 0, none⟩)))]) ?_ ?_
  ·refine bk ?_
   refine lp hl101 (fun s104 a w => St [] W H [K11, H] [(1, cel b13 113 [.int .u8 0, .int .i64 0])] w ∧ Has [] 83 a [(1, .string (bs s_1)), (2, .pointer (some q10)), (4, .pointer (some (⟨b13, 0, none⟩))), (6, .int .i64 (s104 : Int))]) ?_ ?_
   ·intro a w hS hA
    exact ⟨hS, hA.cut ⟨rfl, rfl, rfl, rfl, trivial⟩⟩
   ·rintro j s104 y107 hr105 hz106 a w ⟨hS, hA⟩
    refine TG.ap ?_ hS hA
    unfold m57_2 at hr105
    refine sq ?_
    refine sq ?_
    refine rg ?_
    refine mv rfl rfl ?_
    refine fb 1 Tryz.underlying26 rfl rfl rfl rfl Tryz.sizeOf23 ?_
    refine ld Tryz.isAgg23 rfl rfl (((sS 0 rfl hK12).drop 1).take 1) rfl ?_
    refine lnL Tryz.underlying23 rfl rfl ?_
    refine ltI rfl rfl rfl ?_
    refine on ?_
    refine ci rfl (fun hc111 => ?_) (fun hc111 => ?_)
    ·have hr112 := if_p hc111 hr105
     refine sk ?_
     refine sq ?_
     refine bk ?_
     refine sq ?_
     refine rg ?_
     refine av rfl rfl ?_
     refine on ?_
     obtain ⟨e168, hl169, hr170⟩ := bd_some hr112
     refine jn (fun a w => ∃ t171, e168 = .inl t171 ∧ St [] W H [K11, H] [(1, cel b13 113 [.int .u8 0, .int .i64 0])] w ∧ Has [] 83 a [(1, .string (bs s_1)), (2, .pointer (some q10)), (4, .pointer (some (⟨b13, 0, none⟩))), (6, .int .i64 (s104 : Int))]) ?_ ?_
     ·refine bk ?_
      refine lp hl169 (fun s172 a w => St [] W H [K11, H] [(1, cel b13 113 [.int .u8 0, .int .i64 0])] w ∧ Has [] 83 a [(1, .string (bs s_1)), (2, .pointer (some q10)), (4, .pointer (some (⟨b13, 0, none⟩))), (6, .int .i64 (s104 : Int)), (7, .int .i64 (s172 : Int))]) ?_ ?_
      ·intro a w hS hA
       exact ⟨hS, hA.cut ⟨rfl, rfl, rfl, rfl, rfl, trivial⟩⟩
      ·rintro j s172 y175 hr173 hz174 a w ⟨hS, hA⟩
       refine TG.ap ?_ hS hA
       unfold m57_3 at hr173
       refine sq ?_
       refine sq ?_
       refine rg ?_
       refine mv rfl rfl ?_
       refine fb 1 Tryz.underlying26 rfl rfl rfl rfl Tryz.sizeOf23 ?_
       refine ld Tryz.isAgg23 rfl rfl (((sS 0 rfl hK12).drop 1).take 1) rfl ?_
       refine mv rfl rfl ?_
       obtain ⟨x176, hx177, hr178⟩ := bd_some hr173
       obtain ⟨p179, rfl⟩ := hl6.adr hx177
       obtain ⟨cs180, hcs181, hq182, hr183⟩ := hl6.at hx177
       have hr184 := hr183
       obtain ⟨ad185, cap186, rfl, hl187⟩ := hr183
       have := hl187.len
       refine iaP Tryz.underlying23 Tryz.sizeOf24 rfl rfl rfl rfl (lt_of hx177) ?_
       refine ld Tryz.isAgg24 rfl rfl (sS 1 rfl hq182) rfl ?_
       refine lnL Tryz.underlying24 rfl rfl ?_
       refine ltI rfl rfl rfl ?_
       refine on ?_
       refine ci rfl (fun hc191 => ?_) (fun hc191 => ?_)
       ·have hr192 := if_p hc191 hr178
        refine sk ?_
        refine sq ?_
        refine bk ?_
        refine sq ?_
        refine rg ?_
        refine fb 1 Tryz.underlying26 rfl rfl rfl rfl Tryz.sizeOf23 ?_
        refine ld Tryz.isAgg23 rfl rfl (((sS 0 rfl hK12).drop 1).take 1) rfl ?_
        refine mv rfl rfl ?_
        refine iaP Tryz.underlying23 Tryz.sizeOf24 rfl rfl rfl rfl (lt_of hx177) ?_
        refine ld Tryz.isAgg24 rfl rfl (sS 1 rfl hq182) rfl ?_
        refine mv rfl rfl ?_
        obtain ⟨x204, hx205, hr206⟩ := bd_some hr192
        obtain ⟨p207, rfl⟩ := hl187.adr hx205
        obtain ⟨cs208, hcs209, hq210, hr211⟩ := hl187.at hx205
        obtain rfl := hr211
        refine iaP Tryz.underlying24 Tryz.sizeOf9 rfl rfl rfl rfl (lt_of hx205) ?_
        refine ld Tryz.isAgg9 rfl rfl (sS 1 rfl hq210) rfl ?_
        refine mv rfl rfl ?_
        refine eqS rfl rfl rfl ?_
        refine on ?_
        refine ci rfl (fun hc215 => ?_) (fun hc215 => ?_)
        ·have hr216 := if_p hc215 hr206
         refine sq ?_
         refine rg ?_
         refine mv rfl rfl ?_
         refine bu (cs := [.int .u8 2, .int .i64 (s104 : Int)]) T4.B113 rfl rfl rfl ?_
         refine sto 1 (cs := [.int .u8 2, .int .i64 (s104 : Int)]) Tryz.sizeOf113 rfl rfl rfl rfl rfl rfl rfl ?_
         refine on ?_
         refine rt_ ?_
         obtain rfl := Option.some.inj hr216
         obtain rfl := Fin.out hz174
         obtain rfl := Option.some.inj hr170
         obtain rfl := Fin.out hz106
         obtain rfl := Option.some.inj hr102
         intro a w hS hA
         refine rc1 hA rfl (ResAt.cell rfl (loadsA Tryz.isAgg113 Tryz.sizeOf113 (cell_at (hS.get (t := 1) rfl)) rfl)) ?_
         exact ⟨rfl, hS.ext⟩
        ·have hr217 := if_n hc215 hr206
         refine sk ?_
         refine rg ?_
         refine mv rfl rfl ?_
         refine adI rfl rfl rfl (by omega) ?_
         refine av rfl rfl ?_
         refine on ?_
         obtain rfl := Option.some.inj hr217
         intro a w hS hA
         exact ⟨_, hz174, hS, hA.cut ⟨rfl, rfl, rfl, rfl, rfl, trivial⟩⟩
       ·have hr218 := if_n hc191 hr178
        refine xt rfl ?_
        obtain rfl := Option.some.inj hr218
        obtain rfl := Fin.out hz174
        intro a w hS hA
        exact ⟨_, rfl, hS, hA.cut ⟨rfl, rfl, rfl, rfl, trivial⟩⟩
     ·rintro a w ⟨t171, rfl, hS, hA⟩
      refine TG.ap ?_ hS hA
      refine rg ?_
      refine mv rfl rfl ?_
      refine adI rfl rfl rfl (by omega) ?_
      refine av rfl rfl ?_
      refine on ?_
      obtain rfl := Option.some.inj hr170
      intro a w hS hA
      exact ⟨_, hz106, hS, hA.cut ⟨rfl, rfl, rfl, rfl, trivial⟩⟩
    ·have hr219 := if_n hc111 hr105
     refine xt rfl ?_
     obtain rfl := Option.some.inj hr219
     obtain rfl := Fin.out hz106
     intro a w hS hA
     exact ⟨_, rfl, hS, hA.cut ⟨rfl, rfl, rfl, trivial⟩⟩
  ·rintro a w ⟨t103, rfl, hS, hA⟩
   refine TG.ap ?_ hS hA
   refine sq ?_
   refine sq ?_
   refine rg ?_
   refine av rfl rfl ?_
   refine on ?_
   obtain ⟨e235, hl236, hr237⟩ := bd_some hr102
   refine jn (fun a w => ∃ t238, e235 = .inl t238 ∧ St [] W H [K11, H] [(1, cel b13 113 [.int .u8 0, .int .i64 0])] w ∧ Has [] 83 a [(1, .string (bs s_1)), (4, .pointer (some (⟨b13, 0, none⟩)))]) ?_ ?_
   ·refine bk ?_
    refine lp hl236 (fun s239 a w => St [] W H [K11, H] [(1, cel b13 113 [.int .u8 0, .int .i64 0])] w ∧ Has [] 83 a [(1, .string (bs s_1)), (2, .pointer (some q10)), (4, .pointer (some (⟨b13, 0, none⟩))), (8, .int .i64 (s239 : Int))]) ?_ ?_
    ·intro a w hS hA
     exact ⟨hS, hA.cut ⟨rfl, rfl, rfl, rfl, trivial⟩⟩
    ·rintro j s239 y242 hr240 hz241 a w ⟨hS, hA⟩
     refine TG.ap ?_ hS hA
     unfold m57_4 at hr240
     refine sq ?_
     refine sq ?_
     refine rg ?_
     refine mv rfl rfl ?_
     refine fb 2 Tryz.underlying26 rfl rfl rfl rfl Tryz.sizeOf24 ?_
     refine ld Tryz.isAgg24 rfl rfl ((sS 0 rfl hK12).drop 2) rfl ?_
     refine lnL Tryz.underlying24 rfl rfl ?_
     refine ltI rfl rfl rfl ?_
     refine on ?_
     refine ci rfl (fun hc246 => ?_) (fun hc246 => ?_)
     ·have hr247 := if_p hc246 hr240
      refine sk ?_
      refine sq ?_
      refine bk ?_
      refine sq ?_
      refine rg ?_
      refine fb 2 Tryz.underlying26 rfl rfl rfl rfl Tryz.sizeOf24 ?_
      refine ld Tryz.isAgg24 rfl rfl ((sS 0 rfl hK12).drop 2) rfl ?_
      refine mv rfl rfl ?_
      obtain ⟨x259, hx260, hr261⟩ := bd_some hr247
      obtain ⟨p262, rfl⟩ := hl9.adr hx260
      obtain ⟨cs263, hcs264, hq265, hr266⟩ := hl9.at hx260
      obtain rfl := hr266
      refine iaP Tryz.underlying24 Tryz.sizeOf9 rfl rfl rfl rfl (lt_of hx260) ?_
      refine ld Tryz.isAgg9 rfl rfl (sS 1 rfl hq265) rfl ?_
      refine mv rfl rfl ?_
      refine eqS rfl rfl rfl ?_
      refine on ?_
      refine ci rfl (fun hc270 => ?_) (fun hc270 => ?_)
      ·have hr271 := if_p hc270 hr261
       refine sq ?_
       refine rg ?_
       refine bu (cs := [.int .u8 3, .int .i64 0]) T4.B113 rfl rfl rfl ?_
       refine sto 1 (cs := [.int .u8 3, .int .i64 0]) Tryz.sizeOf113 rfl rfl rfl rfl rfl rfl rfl ?_
       refine on ?_
       refine rt_ ?_
       obtain rfl := Option.some.inj hr271
       obtain rfl := Fin.out hz241
       obtain rfl := Option.some.inj hr237
       intro a w hS hA
       refine rc1 hA rfl (ResAt.cell rfl (loadsA Tryz.isAgg113 Tryz.sizeOf113 (cell_at (hS.get (t := 1) rfl)) rfl)) ?_
       exact ⟨rfl, hS.ext⟩
      ·have hr272 := if_n hc270 hr261
       refine sk ?_
       refine rg ?_
       refine mv rfl rfl ?_
       refine adI rfl rfl rfl (by omega) ?_
       refine av rfl rfl ?_
       refine on ?_
       obtain rfl := Option.some.inj hr272
       intro a w hS hA
       exact ⟨_, hz241, hS, hA.cut ⟨rfl, rfl, rfl, rfl, trivial⟩⟩
     ·have hr273 := if_n hc246 hr240
      refine xt rfl ?_
      obtain rfl := Option.some.inj hr273
      obtain rfl := Fin.out hz241
      intro a w hS hA
      exact ⟨_, rfl, hS, hA.cut ⟨rfl, rfl, trivial⟩⟩
   ·rintro a w ⟨t238, rfl, hS, hA⟩
    refine TG.ap ?_ hS hA
    refine sq ?_
    refine sq ?_
    refine rg ?_
    refine mv rfl rfl ?_
    obtain ⟨r274, hx275, hr276⟩ := bd_some hr237
    refine clS Tryz.call81 rfl rfl rfl rfl (fun w H hH le => w81 s_1 hx275) ?_
    refine av rfl rfl ?_
    refine on ?_
    refine sq ?_
    refine rg ?_
    refine mv rfl rfl ?_
    refine geI rfl rfl rfl ?_
    refine on ?_
    refine ci rfl (fun hc280 => ?_) (fun hc280 => ?_)
    ·have hr281 := if_p hc280 hr276
     refine sq ?_
     refine rg ?_
     refine mv rfl rfl ?_
     refine bu (cs := [.int .u8 1, .int .i64 r274]) T4.B113 rfl rfl rfl ?_
     refine sto 1 (cs := [.int .u8 1, .int .i64 r274]) Tryz.sizeOf113 rfl rfl rfl rfl rfl rfl rfl ?_
     refine on ?_
     refine rt_ ?_
     obtain rfl := Option.some.inj hr281
     intro a w hS hA
     refine rc1 hA rfl (ResAt.cell rfl (loadsA Tryz.isAgg113 Tryz.sizeOf113 (cell_at (hS.get (t := 1) rfl)) rfl)) ?_
     exact ⟨rfl, hS.ext⟩
    ·have hr282 := if_n hc280 hr276
     refine sk ?_
     refine sq ?_
     refine rg ?_
     refine bu (cs := [.int .u8 0, .int .i64 0]) T4.B113 rfl rfl rfl ?_
     refine sto 1 (cs := [.int .u8 0, .int .i64 0]) Tryz.sizeOf113 rfl rfl rfl rfl rfl rfl rfl ?_
     refine on ?_
     refine rt_ ?_
     obtain rfl := Option.some.inj hr282
     intro a w hS hA
     refine rc1 hA rfl (ResAt.cell rfl (loadsA Tryz.isAgg113 Tryz.sizeOf113 (cell_at (hS.get (t := 1) rfl)) rfl)) ?_
     exact ⟨rfl, hS.ext⟩

theorem w25 {W : World} {H : Hp} (hH : H.le (hp W)) {cs_l_0 : List Value} (l_0 : Lexicon) (h_l_0 : (RLexicon) H cs_l_0 l_0) {ad_texts : Option Addr} {cap_texts : Nat} {texts : List Bytes} (h_texts : Sl (Flat encS) 1 H ad_texts cap_texts texts) {r : List Mark} (hr : m25 l_0 texts = some r) : Calls Tryz.prog 25 [.agg cs_l_0.toArray, .slice ad_texts texts.length cap_texts].toArray W (RetK H W (fun v K => ∃ (ad0 : Option Addr) (cap0 : Nat), v = .slice ad0 r.length cap0 ∧ Sl (Flat encMark) 2 K ad0 cap0 r)) := by
 have hh_l_0 := h_l_0
 obtain ⟨ad1, cap2, ad4, cap5, ad7, cap8, rfl, hl3, hl6, hl9⟩ := h_l_0
 have := hl3.len
 have := hl6.len
 have := hl9.len
 have := h_texts.len
 unfold m25 at hr
 refine enterG Tryz.func25 rfl Tryz.ntmps25 rfl hH ?_
 refine sq ?_
 refine rg ?_
 refine bI (cs := [.slice ad1 l_0.numbers.length cap2, .slice ad4 l_0.names.length cap5, .slice ad7 l_0.nots.length cap8]) rfl rfl rfl fun q10 K11 hK12 => ?_
 refine av rfl rfl ?_
 refine on ?_
 refine sq ?_
 refine rg ?_
 refine av rfl rfl ?_
 refine on ?_
 refine sq ?_
 refine sq ?_
 refine rg ?_
 refine av rfl rfl ?_
 refine on ?_
 refine TG.nilRow 3 113 2 ?_
 refine TG.as 3 (z := Own.list none 0 113 2 encMark ([] : List Mark)) rfl rfl ?_
 obtain ⟨e111, hl112, hr113⟩ := bd_some hr
 refine jn (fun a w => ∃ (ad114 : Option Addr) (cap115 : Nat), St [] W H [K11, H] [(3, Own.list ad114 cap115 113 2 encMark e111)] w ∧ Has [] 28 a [(5, .slice ad114 e111.length cap115)]) ?_ ?_
 ·refine bk ?_
  refine lp hl112 (fun s116 a w => ∃ (ad117 : Option Addr) (cap118 : Nat), St [] W H [K11, H] [(3, Own.list ad117 cap118 113 2 encMark s116.2)] w ∧ Has [] 28 a [(1, .slice ad_texts texts.length cap_texts), (2, .pointer (some q10)), (5, .slice ad117 s116.2.length cap118), (6, .int .i64 (s116.1 : Int))]) ?_ ?_
  ·intro a w hS hA
   exact ⟨none, 0, hS, hA.cut ⟨rfl, rfl, rfl, rfl, trivial⟩⟩
  ·rintro j s116 y121 hr119 hz120 a w ⟨ad117, cap118, hS, hA⟩
   refine TG.ap ?_ hS hA
   unfold m25_1 at hr119
   refine sq ?_
   refine sq ?_
   refine rg ?_
   refine mv rfl rfl ?_
   refine mv rfl rfl ?_
   refine lnL Tryz.underlying24 rfl rfl ?_
   refine ltI rfl rfl rfl ?_
   refine on ?_
   refine ci rfl (fun hc125 => ?_) (fun hc125 => ?_)
   ·have hr126 := if_p hc125 hr119
    refine sk ?_
    refine sq ?_
    refine bk ?_
    refine sq ?_
    obtain ⟨x151, hx152, hr153⟩ := bd_some hr126
    obtain ⟨p154, rfl⟩ := h_texts.adr hx152
    obtain ⟨cs155, hcs156, hq157, hr158⟩ := h_texts.at hx152
    obtain rfl := hr158
    obtain ⟨r159, hx160, hr161⟩ := bd_some hr153
    refine drG2 7 6 T4.mixed (by kernel_rfl) rfl rfl ?_
    refine DG.detA rfl rfl rfl (fun τ a w K hS hA hF => TG.pa hS hA (ldA Tryz.isAgg26 Tryz.sizeOf26 rfl rfl (sS 1 rfl hK12) rfl fin1)) ?_
    refine DG.detA rfl rfl rfl (fun τ a w K hS hA hF => TG.pa hS hA (mv rfl rfl fin1)) ?_
    refine DG.detA rfl rfl rfl (fun τ a w K hS hA hF => TG.pa hS hA (mv rfl rfl fin1)) ?_
    refine DG.detA rfl rfl rfl (fun τ a w K hS hA hF => TG.pa hS hA (iaP Tryz.underlying24 Tryz.sizeOf9 rfl rfl rfl rfl (lt_of hx152) fin1)) ?_
    refine DG.detA rfl rfl rfl (fun τ a w K hS hA hF => TG.pa hS hA (ld Tryz.isAgg9 rfl rfl (sS 2 rfl hq157) rfl fin1)) ?_
    refine DG.detA rfl rfl rfl (fun τ a w K hS hA hF => TG.pa hS hA (clS Tryz.call57 rfl rfl rfl rfl (fun w H hH le => w57 hH l_0 (RLexicon.mono _ _ _ _ (le.at 2 rfl) hh_l_0) x151 hx160) fin1)) ?_
    refine DG.turn (α := Nat) 0 (fun b162 => .pointer (some (⟨b162, 0, none⟩))) (fun _ _ => True) (fun b162 => [(1, cel b162 113 [.int .u8 0, .int .i64 0]), (3, Own.list ad117 cap118 113 2 encMark s116.2)]) rfl (fun _ _ _ _ h => h) (by kernel_rfl) rfl rfl (fun a w K hS hA hF => TG.pa hS hA (al 1 (cs := [.int .u8 0, .int .i64 0]) Tryz.zeroValue113 rfl rfl fun b162 => finT (f := fun b162 => .pointer (some (⟨b162, 0, none⟩))) (G := fun _ _ => True) (σ1 := fun b162 => [(1, cel b162 113 [.int .u8 0, .int .i64 0]), (3, Own.list ad117 cap118 113 2 encMark s116.2)]) b162 trivial)) fun b162 => ?_
    refine DG.nil fun K163 hF => ?_
    obtain ⟨_, _⟩ := hF
    refine sto 1 (cs := [.int .u8 r159.kind, .int .i64 r159.value]) Tryz.sizeOf113 rfl rfl rfl rfl rfl rfl rfl ?_
    refine on ?_
    refine sq ?_
    refine rg ?_
    refine fb 0 Tryz.underlying113 rfl rfl rfl rfl Tryz.sizeOf5 ?_
    refine ld Tryz.isAgg5 rfl rfl ((sO 1 rfl).take 1) rfl ?_
    refine neI rfl rfl rfl ?_
    refine on ?_
    obtain ⟨t172, hx173, hr174⟩ := bd_some hr161
    refine jn (fun a w => ∃ (ad175 : Option Addr) (cap176 : Nat), St [] W H [K163, K11, H] [(1, cel b162 113 [.int .u8 r159.kind, .int .i64 r159.value]), (3, Own.list ad175 cap176 113 2 encMark t172)] w ∧ Has [] 28 a [(1, .slice (some p154) texts.length cap_texts), (2, .pointer (some q10)), (5, .slice ad175 t172.length cap176), (6, .int .i64 (s116.1 : Int))]) ?_ ?_
    ·refine ci rfl (fun hc177 => ?_) (fun hc177 => ?_)
     ·have hr178 := if_p hc177 hx173
      refine rg ?_
      refine mv rfl rfl ?_
      refine ldA Tryz.isAgg113 Tryz.sizeOf113 rfl rfl (sO 1 rfl) rfl ?_
      obtain ⟨hk179, hr180⟩ := chk_some hr178
      have := lenA s116.2 [r159]
      refine ap1 3 encMark (l := s116.2) r159 T4.E44 rfl rfl rfl rfl rfl rfl rfl rfl rfl rfl rfl rfl hk179 fun ad181 cap182 u183 => ?_
      refine av rfl rfl ?_
      refine on ?_
      obtain rfl := Option.some.inj hr180
      intro a w hS hA
      exact ⟨ad181, cap182, hS, hA.cut ⟨rfl, rfl, rfl, rfl, trivial⟩⟩
     ·have hr184 := if_n hc177 hx173
      refine sk ?_
      obtain rfl := Option.some.inj hr184
      intro a w hS hA
      exact ⟨ad117, cap118, hS, hA.cut ⟨rfl, rfl, rfl, rfl, trivial⟩⟩
    ·rintro a w ⟨ad175, cap176, hS, hA⟩
     refine TG.ap ?_ hS hA
     refine rg ?_
     refine mv rfl rfl ?_
     refine adI rfl rfl rfl (by omega) ?_
     refine av rfl rfl ?_
     refine on ?_
     refine TG.del 1 ?_
     obtain rfl := Option.some.inj hr174
     intro a w hS hA
     exact ⟨_, hz120, ad175, cap176, hS.selH [1, 2] rfl, hA.cut ⟨rfl, rfl, rfl, rfl, trivial⟩⟩
   ·have hr185 := if_n hc125 hr119
    refine xt rfl ?_
    obtain rfl := Option.some.inj hr185
    obtain rfl := Fin.out hz120
    intro a w hS hA
    exact ⟨ad117, cap118, hS, hA.cut ⟨rfl, trivial⟩⟩
 ·rintro a w ⟨ad114, cap115, hS, hA⟩
  refine TG.ap ?_ hS hA
  refine sq ?_
  refine rg ?_
  refine mv rfl rfl ?_
  refine av rfl rfl ?_
  refine on ?_
  refine rt_ ?_
  obtain rfl := Option.some.inj hr113
  intro a w hS hA
  refine ret1 hA rfl rfl ?_
  exact ⟨⟨_, _, rfl, (hS.listOut 3 rfl (fun _ => rfl))⟩, hS.ext⟩

theorem w56 {W : World} {H : Hp} (hH : H.le (hp W)) {ad_swaps : Option Addr} {cap_swaps : Nat} {swaps : List Swap} (h_swaps : Sl (Flat encSwap) 3 H ad_swaps cap_swaps swaps) {cs_a_1 : List Value} (a_1 : Mark) (h_a_1 : (Flat encMark) H cs_a_1 a_1) {cs_b_2 : List Value} (b_2 : Mark) (h_b_2 : (Flat encMark) H cs_b_2 b_2) {r : Bool} (hr : m56 swaps a_1 b_2 = some r) : Calls Tryz.prog 56 [.slice ad_swaps swaps.length cap_swaps, .agg cs_a_1.toArray, .agg cs_b_2.toArray].toArray W (RetS W (.bool r)) := by
 have := h_swaps.len
 obtain rfl := h_a_1
 obtain rfl := h_b_2
 unfold m56 at hr
 refine enterG Tryz.func56 rfl Tryz.ntmps56 rfl hH ?_
 refine sq ?_
 refine rg ?_
 refine bI (cs := [.int .u8 a_1.kind, .int .i64 a_1.value]) rfl rfl rfl fun q1 K2 hK3 => ?_
 refine bI (cs := [.int .u8 b_2.kind, .int .i64 b_2.value]) rfl rfl rfl fun q4 K5 hK6 => ?_
 refine av rfl rfl ?_
 refine on ?_
 refine sq ?_
 refine sq ?_
 refine rg ?_
 refine ldA Tryz.isAgg113 Tryz.sizeOf113 rfl rfl (sS 1 rfl hK3) rfl ?_
 refine ldA Tryz.isAgg113 Tryz.sizeOf113 rfl rfl (sS 0 rfl hK6) rfl ?_
 refine eqA a_1 b_2 T4.Q113 rfl rfl rfl ?_
 refine on ?_
 refine ci rfl (fun hc10 => ?_) (fun hc10 => ?_)
 ·have hr11 := if_p hc10 hr
  refine sq ?_
  refine rg ?_
  refine av rfl rfl ?_
  refine on ?_
  refine rt_ ?_
  obtain rfl := Option.some.inj hr11
  intro a w hS hA
  refine ret1 hA rfl rfl ?_
  exact ⟨rfl, hS.ext⟩
 ·have hr12 := if_n hc10 hr
  refine sk ?_
  refine sq ?_
  refine sq ?_
  refine rg ?_
  refine av rfl rfl ?_
  refine on ?_
  obtain ⟨e41, hl42, hr43⟩ := bd_some hr12
  refine jn (fun a w => ∃ t44, e41 = .inl t44 ∧ St [] W H [K5, K2, H] [] w ∧ Has [] 48 a []) ?_ ?_
  ·refine bk ?_
   refine lp hl42 (fun s45 a w => St [] W H [K5, K2, H] [] w ∧ Has [] 48 a [(0, .slice ad_swaps swaps.length cap_swaps), (4, .pointer (some q1)), (5, .pointer (some q4)), (7, .int .i64 (s45 : Int))]) ?_ ?_
   ·intro a w hS hA
    exact ⟨hS, hA.cut ⟨rfl, rfl, rfl, rfl, trivial⟩⟩
   ·rintro j s45 y48 hr46 hz47 a w ⟨hS, hA⟩
    refine TG.ap ?_ hS hA
    unfold m56_1 at hr46
    refine sq ?_
    refine sq ?_
    refine rg ?_
    refine mv rfl rfl ?_
    refine mv rfl rfl ?_
    refine lnL Tryz.underlying27 rfl rfl ?_
    refine ltI rfl rfl rfl ?_
    refine on ?_
    refine ci rfl (fun hc52 => ?_) (fun hc52 => ?_)
    ·have hr53 := if_p hc52 hr46
     refine sk ?_
     refine sq ?_
     refine bk ?_
     refine sq ?_
     refine rg ?_
     refine mv rfl rfl ?_
     refine mv rfl rfl ?_
     obtain ⟨x78, hx79, hr80⟩ := bd_some hr53
     obtain ⟨p81, rfl⟩ := h_swaps.adr hx79
     obtain ⟨cs82, hcs83, hq84, hr85⟩ := h_swaps.at hx79
     obtain rfl := hr85
     refine iaP Tryz.underlying27 Tryz.sizeOf48 rfl rfl rfl rfl (lt_of hx79) ?_
     refine ldA Tryz.isAgg48 Tryz.sizeOf48 rfl rfl (sS 2 rfl hq84) rfl ?_
     refine va (cs := [.int .u8 x78.kind, .int .i64 x78.old_, .int .i64 x78.new_]) Tryz.zeroValue48 Tryz.sizeOf48 rfl rfl rfl rfl rfl rfl rfl rfl fun q86 K87 hK88 => ?_
     refine on ?_
     refine sq ?_
     obtain ⟨t98, hx99, hr100⟩ := bd_some hr80
     refine jn (fun a w => St [] W H [K87, K5, K2, H] [] w ∧ Has [] 48 a [(0, .slice (some p81) swaps.length cap_swaps), (4, .pointer (some q1)), (5, .pointer (some q4)), (7, .int .i64 (s45 : Int)), (47, .bool t98)]) ?_ ?_
     ·refine rg ?_
      refine fb 0 Tryz.underlying113 rfl rfl rfl rfl Tryz.sizeOf5 ?_
      refine ld Tryz.isAgg5 rfl rfl ((sS 2 rfl hK3).take 1) rfl ?_
      refine fb 0 Tryz.underlying113 rfl rfl rfl rfl Tryz.sizeOf5 ?_
      refine ld Tryz.isAgg5 rfl rfl ((sS 1 rfl hK6).take 1) rfl ?_
      refine eqI rfl rfl rfl ?_
      refine mv rfl rfl ?_
      by_cases hb101 : a_1.kind = b_2.kind
      ·have hr102 := if_p hb101 hx99
       refine gN rfl rfl (decide_eq_true hb101) ?_
       refine fb 0 Tryz.underlying48 rfl rfl rfl rfl Tryz.sizeOf5 ?_
       refine gN rfl rfl (decide_eq_true hb101) ?_
       refine ld Tryz.isAgg5 rfl rfl ((sS 0 rfl hK88).take 1) rfl ?_
       refine gN rfl rfl (decide_eq_true hb101) ?_
       refine fb 0 Tryz.underlying113 rfl rfl rfl rfl Tryz.sizeOf5 ?_
       refine gN rfl rfl (decide_eq_true hb101) ?_
       refine ld Tryz.isAgg5 rfl rfl ((sS 2 rfl hK3).take 1) rfl ?_
       refine gN rfl rfl (decide_eq_true hb101) ?_
       refine eqI rfl rfl rfl ?_
       refine pT rfl rfl (decide_eq_true hb101) rfl ?_
       refine mv rfl rfl ?_
       by_cases hb103 : x78.kind = a_1.kind
       ·have hr104 := if_p hb103 hr102
        refine gN rfl rfl (decide_eq_true hb103) ?_
        refine fb 1 Tryz.underlying48 rfl rfl rfl rfl Tryz.sizeOf3 ?_
        refine gN rfl rfl (decide_eq_true hb103) ?_
        refine ld Tryz.isAgg3 rfl rfl (((sS 0 rfl hK88).drop 1).take 1) rfl ?_
        refine gN rfl rfl (decide_eq_true hb103) ?_
        refine fb 1 Tryz.underlying113 rfl rfl rfl rfl Tryz.sizeOf3 ?_
        refine gN rfl rfl (decide_eq_true hb103) ?_
        refine ld Tryz.isAgg3 rfl rfl ((sS 2 rfl hK3).drop 1) rfl ?_
        refine gN rfl rfl (decide_eq_true hb103) ?_
        refine eqI rfl rfl rfl ?_
        refine pT rfl rfl (decide_eq_true hb103) rfl ?_
        refine mv rfl rfl ?_
        by_cases hb105 : x78.old_ = a_1.value
        ·have hr106 := if_p hb105 hr104
         refine gN rfl rfl (decide_eq_true hb105) ?_
         refine fb 2 Tryz.underlying48 rfl rfl rfl rfl Tryz.sizeOf3 ?_
         refine gN rfl rfl (decide_eq_true hb105) ?_
         refine ld Tryz.isAgg3 rfl rfl ((sS 0 rfl hK88).drop 2) rfl ?_
         refine gN rfl rfl (decide_eq_true hb105) ?_
         refine fb 1 Tryz.underlying113 rfl rfl rfl rfl Tryz.sizeOf3 ?_
         refine gN rfl rfl (decide_eq_true hb105) ?_
         refine ld Tryz.isAgg3 rfl rfl ((sS 1 rfl hK6).drop 1) rfl ?_
         refine gN rfl rfl (decide_eq_true hb105) ?_
         refine eqI rfl rfl rfl ?_
         refine pT rfl rfl (decide_eq_true hb105) rfl ?_
         refine on ?_
         obtain rfl := Option.some.inj hr106
         intro a w hS hA
         exact ⟨hS, hA.cut ⟨rfl, rfl, rfl, rfl, rfl, trivial⟩⟩
        ·have hr107 := if_n hb105 hr104
         refine gF rfl rfl (decide_eq_false hb105) rfl ?_
         refine gF rfl rfl (decide_eq_false hb105) rfl ?_
         refine gF rfl rfl (decide_eq_false hb105) rfl ?_
         refine gF rfl rfl (decide_eq_false hb105) rfl ?_
         refine gF rfl rfl (decide_eq_false hb105) rfl ?_
         refine pF rfl rfl (decide_eq_false hb105) rfl ?_
         refine on ?_
         obtain rfl := Option.some.inj hr107
         intro a w hS hA
         exact ⟨hS, hA.cut ⟨rfl, rfl, rfl, rfl, rfl, trivial⟩⟩
       ·have hr108 := if_n hb103 hr102
        refine gF rfl rfl (decide_eq_false hb103) rfl ?_
        refine gF rfl rfl (decide_eq_false hb103) rfl ?_
        refine gF rfl rfl (decide_eq_false hb103) rfl ?_
        refine gF rfl rfl (decide_eq_false hb103) rfl ?_
        refine gF rfl rfl (decide_eq_false hb103) rfl ?_
        refine pF rfl rfl (decide_eq_false hb103) rfl ?_
        refine mv rfl rfl ?_
        refine gF rfl rfl rfl rfl ?_
        refine gF rfl rfl rfl rfl ?_
        refine gF rfl rfl rfl rfl ?_
        refine gF rfl rfl rfl rfl ?_
        refine gF rfl rfl rfl rfl ?_
        refine pF rfl rfl rfl rfl ?_
        refine on ?_
        obtain rfl := Option.some.inj hr108
        intro a w hS hA
        exact ⟨hS, hA.cut ⟨rfl, rfl, rfl, rfl, rfl, trivial⟩⟩
      ·have hr109 := if_n hb101 hx99
       refine gF rfl rfl (decide_eq_false hb101) rfl ?_
       refine gF rfl rfl (decide_eq_false hb101) rfl ?_
       refine gF rfl rfl (decide_eq_false hb101) rfl ?_
       refine gF rfl rfl (decide_eq_false hb101) rfl ?_
       refine gF rfl rfl (decide_eq_false hb101) rfl ?_
       refine pF rfl rfl (decide_eq_false hb101) rfl ?_
       refine mv rfl rfl ?_
       refine gF rfl rfl rfl rfl ?_
       refine gF rfl rfl rfl rfl ?_
       refine gF rfl rfl rfl rfl ?_
       refine gF rfl rfl rfl rfl ?_
       refine gF rfl rfl rfl rfl ?_
       refine pF rfl rfl rfl rfl ?_
       refine mv rfl rfl ?_
       refine gF rfl rfl rfl rfl ?_
       refine gF rfl rfl rfl rfl ?_
       refine gF rfl rfl rfl rfl ?_
       refine gF rfl rfl rfl rfl ?_
       refine gF rfl rfl rfl rfl ?_
       refine pF rfl rfl rfl rfl ?_
       refine on ?_
       obtain rfl := Option.some.inj hr109
       intro a w hS hA
       exact ⟨hS, hA.cut ⟨rfl, rfl, rfl, rfl, rfl, trivial⟩⟩
     ·rintro a w ⟨hS, hA⟩
      refine TG.ap ?_ hS hA
      refine cb rfl (fun hc113 => ?_) (fun hc113 => ?_)
      ·have hr114 := if_p hc113 hr100
       refine sq ?_
       refine rg ?_
       refine av rfl rfl ?_
       refine on ?_
       refine rt_ ?_
       obtain rfl := Option.some.inj hr114
       obtain rfl := Fin.out hz47
       obtain rfl := Option.some.inj hr43
       intro a w hS hA
       refine ret1 hA rfl rfl ?_
       exact ⟨rfl, hS.ext⟩
      ·have hr115 := if_f hc113 hr100
       refine sk ?_
       refine rg ?_
       refine mv rfl rfl ?_
       refine adI rfl rfl rfl (by omega) ?_
       refine av rfl rfl ?_
       refine on ?_
       obtain rfl := Option.some.inj hr115
       intro a w hS hA
       exact ⟨_, hz47, hS.selH [1, 2, 3] rfl, hA.cut ⟨rfl, rfl, rfl, rfl, trivial⟩⟩
    ·have hr116 := if_n hc52 hr46
     refine xt rfl ?_
     obtain rfl := Option.some.inj hr116
     obtain rfl := Fin.out hz47
     intro a w hS hA
     exact ⟨_, rfl, hS, hA.cut trivial⟩
  ·rintro a w ⟨t44, rfl, hS, hA⟩
   refine TG.ap ?_ hS hA
   refine sq ?_
   refine rg ?_
   refine av rfl rfl ?_
   refine on ?_
   refine rt_ ?_
   obtain rfl := Option.some.inj hr43
   intro a w hS hA
   refine ret1 hA rfl rfl ?_
   exact ⟨rfl, hS.ext⟩

theorem w35 {W : World} {H : Hp} (hH : H.le (hp W)) {cs_r_0 : List Value} (r_0 : Report) (h_r_0 : (RReport) H cs_r_0 r_0) {ad_requests : Option Addr} {cap_requests : Nat} {requests : List Request} (h_requests : Sl (RRequest) 5 H ad_requests cap_requests requests) {r : Bool} (hr : m35 r_0 requests = some r) : Calls Tryz.prog 35 [.agg cs_r_0.toArray, .slice ad_requests requests.length cap_requests].toArray W (RetS W (.bool r)) := by
 have hh_r_0 := h_r_0
 obtain ⟨ad1, cap2, rfl, hl3⟩ := h_r_0
 have := hl3.len
 have := h_requests.len
 unfold m35 at hr
 refine enterG Tryz.func35 rfl Tryz.ntmps35 rfl hH ?_
 refine sq ?_
 refine rg ?_
 refine bI (cs := [.slice ad1 r_0.words.length cap2, .int .i64 r_0.out, .int .i64 r_0.within]) rfl rfl rfl fun q4 K5 hK6 => ?_
 refine av rfl rfl ?_
 refine on ?_
 refine sq ?_
 refine sq ?_
 refine rg ?_
 refine av rfl rfl ?_
 refine on ?_
 obtain ⟨e28, hl29, hr30⟩ := bd_some hr
 refine jn (fun a w => ∃ t31, e28 = .inl t31 ∧ St [] W H [K5, H] [] w ∧ Has [] 52 a [(1, .slice ad_requests requests.length cap_requests), (2, .pointer (some q4))]) ?_ ?_
 ·refine bk ?_
  refine lp hl29 (fun s32 a w => St [] W H [K5, H] [] w ∧ Has [] 52 a [(1, .slice ad_requests requests.length cap_requests), (2, .pointer (some q4)), (5, .int .i64 (s32 : Int))]) ?_ ?_
  ·intro a w hS hA
   exact ⟨hS, hA.cut ⟨rfl, rfl, rfl, trivial⟩⟩
  ·rintro j s32 y35 hr33 hz34 a w ⟨hS, hA⟩
   refine TG.ap ?_ hS hA
   unfold m35_1 at hr33
   refine sq ?_
   refine sq ?_
   obtain ⟨t39, hx40, hr41⟩ := bd_some hr33
   refine jn (fun a w => St [] W H [K5, H] [] w ∧ Has [] 52 a [(1, .slice ad_requests requests.length cap_requests), (2, .pointer (some q4)), (5, .int .i64 (s32 : Int)), (15, .bool t39)]) ?_ ?_
   ·refine rg ?_
    refine mv rfl rfl ?_
    refine fb 0 Tryz.underlying68 rfl rfl rfl rfl Tryz.sizeOf66 ?_
    refine ld Tryz.isAgg66 rfl rfl ((sS 0 rfl hK6).take 1) rfl ?_
    refine lnL Tryz.underlying66 rfl rfl ?_
    refine ltI rfl rfl rfl ?_
    refine mv rfl rfl ?_
    by_cases hb42 : (s32 : Int) < (r_0.words.length : Int)
    ·have hr43 := if_p hb42 hx40
     refine gN rfl rfl (decide_eq_true hb42) ?_
     refine mv rfl rfl ?_
     refine gN rfl rfl (decide_eq_true hb42) ?_
     refine ltI rfl rfl rfl ?_
     refine pT rfl rfl (decide_eq_true hb42) rfl ?_
     refine on ?_
     obtain rfl := Option.some.inj hr43
     intro a w hS hA
     exact ⟨hS, hA.cut ⟨rfl, rfl, rfl, rfl, trivial⟩⟩
    ·have hr44 := if_n hb42 hx40
     refine gF rfl rfl (decide_eq_false hb42) rfl ?_
     refine gF rfl rfl (decide_eq_false hb42) rfl ?_
     refine pF rfl rfl (decide_eq_false hb42) rfl ?_
     refine on ?_
     obtain rfl := Option.some.inj hr44
     intro a w hS hA
     exact ⟨hS, hA.cut ⟨rfl, rfl, rfl, rfl, trivial⟩⟩
   ·rintro a w ⟨hS, hA⟩
    refine TG.ap ?_ hS hA
    refine cb rfl (fun hc48 => ?_) (fun hc48 => ?_)
    ·have hr49 := if_p hc48 hr41
     refine sk ?_
     refine sq ?_
     refine bk ?_
     refine sq ?_
     refine rg ?_
     refine fb 0 Tryz.underlying68 rfl rfl rfl rfl Tryz.sizeOf66 ?_
     refine ld Tryz.isAgg66 rfl rfl ((sS 0 rfl hK6).take 1) rfl ?_
     refine mv rfl rfl ?_
     obtain ⟨x61, hx62, hr63⟩ := bd_some hr49
     obtain ⟨p64, rfl⟩ := hl3.adr hx62
     obtain ⟨cs65, hcs66, hq67, hr68⟩ := hl3.at hx62
     obtain rfl := hr68
     refine iaP Tryz.underlying66 Tryz.sizeOf74 rfl rfl rfl rfl (lt_of hx62) ?_
     refine fb 0 Tryz.underlying74 rfl rfl rfl rfl Tryz.sizeOf9 ?_
     refine ld Tryz.isAgg9 rfl rfl ((sS 1 rfl hq67).take 1) rfl ?_
     refine lnS Tryz.underlying9 rfl rfl ?_
     refine gtI rfl rfl rfl ?_
     refine on ?_
     refine ci rfl (fun hc72 => ?_) (fun hc72 => ?_)
     ·have hr73 := if_p hc72 hr63
      refine sq ?_
      refine rg ?_
      refine av rfl rfl ?_
      refine on ?_
      refine rt_ ?_
      obtain rfl := Option.some.inj hr73
      obtain rfl := Fin.out hz34
      obtain rfl := Option.some.inj hr30
      intro a w hS hA
      refine ret1 hA rfl rfl ?_
      exact ⟨rfl, hS.ext⟩
     ·have hr74 := if_n hc72 hr63
      refine sk ?_
      refine rg ?_
      refine mv rfl rfl ?_
      obtain ⟨hk75, hr76⟩ := chk_some hr74
      refine adI rfl rfl rfl hk75 ?_
      refine av rfl rfl ?_
      refine on ?_
      obtain rfl := Option.some.inj hr76
      intro a w hS hA
      exact ⟨_, hz34, hS, hA.cut ⟨rfl, rfl, rfl, trivial⟩⟩
    ·have hr77 := if_f hc48 hr41
     refine xt rfl ?_
     obtain rfl := Option.some.inj hr77
     obtain rfl := Fin.out hz34
     intro a w hS hA
     exact ⟨_, rfl, hS, hA.cut ⟨rfl, rfl, trivial⟩⟩
 ·rintro a w ⟨t31, rfl, hS, hA⟩
  refine TG.ap ?_ hS hA
  refine sq ?_
  refine sq ?_
  refine rg ?_
  refine av rfl rfl ?_
  refine on ?_
  obtain ⟨e106, hl107, hr108⟩ := bd_some hr30
  refine jn (fun a w => ∃ t109, e106 = .inl t109 ∧ St [] W H [K5, H] [] w ∧ Has [] 52 a [(1, .slice ad_requests requests.length cap_requests), (2, .pointer (some q4))]) ?_ ?_
  ·refine bk ?_
   refine lp hl107 (fun s110 a w => St [] W H [K5, H] [] w ∧ Has [] 52 a [(1, .slice ad_requests requests.length cap_requests), (2, .pointer (some q4)), (6, .int .i64 (s110 : Int))]) ?_ ?_
   ·intro a w hS hA
    exact ⟨hS, hA.cut ⟨rfl, rfl, rfl, trivial⟩⟩
   ·rintro j s110 y113 hr111 hz112 a w ⟨hS, hA⟩
    refine TG.ap ?_ hS hA
    unfold m35_2 at hr111
    refine sq ?_
    refine sq ?_
    obtain ⟨t117, hx118, hr119⟩ := bd_some hr111
    refine jn (fun a w => St [] W H [K5, H] [] w ∧ Has [] 52 a [(1, .slice ad_requests requests.length cap_requests), (2, .pointer (some q4)), (6, .int .i64 (s110 : Int)), (33, .bool t117)]) ?_ ?_
    ·refine rg ?_
     refine mv rfl rfl ?_
     refine mv rfl rfl ?_
     refine lnL Tryz.underlying69 rfl rfl ?_
     refine ltI rfl rfl rfl ?_
     refine mv rfl rfl ?_
     by_cases hb120 : (s110 : Int) < (requests.length : Int)
     ·have hr121 := if_p hb120 hx118
      refine gN rfl rfl (decide_eq_true hb120) ?_
      refine mv rfl rfl ?_
      refine gN rfl rfl (decide_eq_true hb120) ?_
      refine ltI rfl rfl rfl ?_
      refine pT rfl rfl (decide_eq_true hb120) rfl ?_
      refine on ?_
      obtain rfl := Option.some.inj hr121
      intro a w hS hA
      exact ⟨hS, hA.cut ⟨rfl, rfl, rfl, rfl, trivial⟩⟩
     ·have hr122 := if_n hb120 hx118
      refine gF rfl rfl (decide_eq_false hb120) rfl ?_
      refine gF rfl rfl (decide_eq_false hb120) rfl ?_
      refine pF rfl rfl (decide_eq_false hb120) rfl ?_
      refine on ?_
      obtain rfl := Option.some.inj hr122
      intro a w hS hA
      exact ⟨hS, hA.cut ⟨rfl, rfl, rfl, rfl, trivial⟩⟩
    ·rintro a w ⟨hS, hA⟩
     refine TG.ap ?_ hS hA
     refine cb rfl (fun hc126 => ?_) (fun hc126 => ?_)
     ·have hr127 := if_p hc126 hr119
      refine sk ?_
      refine sq ?_
      refine bk ?_
      refine sq ?_
      refine rg ?_
      refine mv rfl rfl ?_
      refine mv rfl rfl ?_
      obtain ⟨x146, hx147, hr148⟩ := bd_some hr127
      obtain ⟨p149, rfl⟩ := h_requests.adr hx147
      obtain ⟨cs150, hcs151, hq152, hr153⟩ := h_requests.at hx147
      have hr154 := hr153
      obtain ⟨ad155, cap156, rfl, hl157⟩ := hr153
      have := hl157.len
      refine iaP Tryz.underlying69 Tryz.sizeOf73 rfl rfl rfl rfl (lt_of hx147) ?_
      refine fb 4 Tryz.underlying73 rfl rfl rfl rfl Tryz.sizeOf24 ?_
      refine ld Tryz.isAgg24 rfl rfl ((sS 1 rfl hq152).drop 4) rfl ?_
      obtain ⟨r158, hx159, hr160⟩ := bd_some hr148
      refine clS Tryz.call16 rfl rfl rfl rfl (fun w H hH le => w16 hH (hl157.mono (Flat.mono _) (le.at 1 rfl)) 12 hx159) ?_
      refine nt rfl rfl ?_
      refine on ?_
      refine cb rfl (fun hc164 => ?_) (fun hc164 => ?_)
      ·replace hc164 := nbt hc164
       have hr165 := if_f hc164 hr160
       refine sq ?_
       refine rg ?_
       refine av rfl rfl ?_
       refine on ?_
       refine rt_ ?_
       obtain rfl := Option.some.inj hr165
       obtain rfl := Fin.out hz112
       obtain rfl := Option.some.inj hr108
       intro a w hS hA
       refine ret1 hA rfl rfl ?_
       exact ⟨rfl, hS.ext⟩
      ·replace hc164 := nbf hc164
       have hr166 := if_p hc164 hr160
       refine sk ?_
       refine rg ?_
       refine mv rfl rfl ?_
       obtain ⟨hk167, hr168⟩ := chk_some hr166
       refine adI rfl rfl rfl hk167 ?_
       refine av rfl rfl ?_
       refine on ?_
       obtain rfl := Option.some.inj hr168
       intro a w hS hA
       exact ⟨_, hz112, hS, hA.cut ⟨rfl, rfl, rfl, trivial⟩⟩
     ·have hr169 := if_f hc126 hr119
      refine xt rfl ?_
      obtain rfl := Option.some.inj hr169
      obtain rfl := Fin.out hz112
      intro a w hS hA
      exact ⟨_, rfl, hS, hA.cut ⟨rfl, rfl, trivial⟩⟩
  ·rintro a w ⟨t109, rfl, hS, hA⟩
   refine TG.ap ?_ hS hA
   refine sq ?_
   obtain ⟨t173, hx174, hr175⟩ := bd_some hr108
   refine jn (fun a w => St [] W H [K5, H] [] w ∧ Has [] 52 a [(4, .bool t173)]) ?_ ?_
   ·refine rg ?_
    refine fb 0 Tryz.underlying68 rfl rfl rfl rfl Tryz.sizeOf66 ?_
    refine ld Tryz.isAgg66 rfl rfl ((sS 0 rfl hK6).take 1) rfl ?_
    refine lnL Tryz.underlying66 rfl rfl ?_
    refine leI rfl rfl rfl ?_
    refine mv rfl rfl ?_
    by_cases hb176 : (r_0.words.length : Int) ≤ 85
    ·have hr177 := if_p hb176 hx174
     refine gN rfl rfl (decide_eq_true hb176) ?_
     refine mv rfl rfl ?_
     refine gN rfl rfl (decide_eq_true hb176) ?_
     refine lnL Tryz.underlying69 rfl rfl ?_
     refine gN rfl rfl (decide_eq_true hb176) ?_
     refine leI rfl rfl rfl ?_
     refine pT rfl rfl (decide_eq_true hb176) rfl ?_
     refine av rfl rfl ?_
     refine on ?_
     obtain rfl := Option.some.inj hr177
     intro a w hS hA
     exact ⟨hS, hA.cut ⟨rfl, trivial⟩⟩
    ·have hr178 := if_n hb176 hx174
     refine gF rfl rfl (decide_eq_false hb176) rfl ?_
     refine gF rfl rfl (decide_eq_false hb176) rfl ?_
     refine gF rfl rfl (decide_eq_false hb176) rfl ?_
     refine pF rfl rfl (decide_eq_false hb176) rfl ?_
     refine av rfl rfl ?_
     refine on ?_
     obtain rfl := Option.some.inj hr178
     intro a w hS hA
     exact ⟨hS, hA.cut ⟨rfl, trivial⟩⟩
   ·rintro a w ⟨hS, hA⟩
    refine TG.ap ?_ hS hA
    refine rt_ ?_
    obtain rfl := Option.some.inj hr175
    intro a w hS hA
    refine ret1 hA rfl rfl ?_
    exact ⟨rfl, hS.ext⟩

theorem w37 {W : World} {H : Hp} (hH : H.le (hp W)) {cs_r_0 : List Value} (r_0 : Report) (h_r_0 : (RReport) H cs_r_0 r_0) {r : Bool} (hr : m37 r_0 = some r) : Calls Tryz.prog 37 [.agg cs_r_0.toArray].toArray W (RetS W (.bool r)) := by
 have hh_r_0 := h_r_0
 obtain ⟨ad1, cap2, rfl, hl3⟩ := h_r_0
 have := hl3.len
 unfold m37 at hr
 refine enterG Tryz.func37 rfl Tryz.ntmps37 rfl hH ?_
 refine sq ?_
 refine rg ?_
 refine bI (cs := [.slice ad1 r_0.words.length cap2, .int .i64 r_0.out, .int .i64 r_0.within]) rfl rfl rfl fun q4 K5 hK6 => ?_
 refine av rfl rfl ?_
 refine on ?_
 refine sq ?_
 refine sq ?_
 refine rg ?_
 refine av rfl rfl ?_
 refine on ?_
 obtain ⟨e32, hl33, hr34⟩ := bd_some hr
 refine jn (fun a w => ∃ t35, e32 = .inl t35 ∧ St [] W H [K5, H] [] w ∧ Has [] 43 a [(1, .pointer (some q4))]) ?_ ?_
 ·refine bk ?_
  refine lp hl33 (fun s36 a w => St [] W H [K5, H] [] w ∧ Has [] 43 a [(1, .pointer (some q4)), (3, .int .i64 (s36 : Int))]) ?_ ?_
  ·intro a w hS hA
   exact ⟨hS, hA.cut ⟨rfl, rfl, trivial⟩⟩
  ·rintro j s36 y39 hr37 hz38 a w ⟨hS, hA⟩
   refine TG.ap ?_ hS hA
   unfold m37_1 at hr37
   refine sq ?_
   refine sq ?_
   refine rg ?_
   refine mv rfl rfl ?_
   refine fb 0 Tryz.underlying68 rfl rfl rfl rfl Tryz.sizeOf66 ?_
   refine ld Tryz.isAgg66 rfl rfl ((sS 0 rfl hK6).take 1) rfl ?_
   refine lnL Tryz.underlying66 rfl rfl ?_
   refine ltI rfl rfl rfl ?_
   refine on ?_
   refine ci rfl (fun hc43 => ?_) (fun hc43 => ?_)
   ·have hr44 := if_p hc43 hr37
    refine sk ?_
    refine sq ?_
    refine bk ?_
    refine sq ?_
    obtain ⟨t83, hx84, hr85⟩ := bd_some hr44
    refine jn (fun a w => St [] W H [K5, H] [] w ∧ Has [] 43 a [(1, .pointer (some q4)), (3, .int .i64 (s36 : Int)), (28, .bool t83)]) ?_ ?_
    ·refine rg ?_
     refine fb 0 Tryz.underlying68 rfl rfl rfl rfl Tryz.sizeOf66 ?_
     refine ld Tryz.isAgg66 rfl rfl ((sS 0 rfl hK6).take 1) rfl ?_
     refine mv rfl rfl ?_
     obtain ⟨x86, hx87, hr88⟩ := bd_some hx84
     obtain ⟨p89, rfl⟩ := hl3.adr hx87
     obtain ⟨cs90, hcs91, hq92, hr93⟩ := hl3.at hx87
     obtain rfl := hr93
     refine iaP Tryz.underlying66 Tryz.sizeOf74 rfl rfl rfl rfl (lt_of hx87) ?_
     refine fb 0 Tryz.underlying74 rfl rfl rfl rfl Tryz.sizeOf9 ?_
     refine ld Tryz.isAgg9 rfl rfl ((sS 1 rfl hq92).take 1) rfl ?_
     obtain ⟨r94, hx95, hr96⟩ := bd_some hr88
     refine clS Tryz.call60 rfl rfl rfl rfl (fun w H hH le => w60 x86.text hx95) ?_
     refine nt rfl rfl ?_
     refine mv rfl rfl ?_
     rcases Bool.eq_false_or_eq_true (r94) with hb97 | hb97
     ·have hr98 := if_p hb97 hr96
      refine gN rfl rfl (congrArg not (hb97)) ?_
      refine fb 0 Tryz.underlying68 rfl rfl rfl rfl Tryz.sizeOf66 ?_
      refine gN rfl rfl (congrArg not (hb97)) ?_
      refine ld Tryz.isAgg66 rfl rfl ((sS 0 rfl hK6).take 1) rfl ?_
      refine gN rfl rfl (congrArg not (hb97)) ?_
      refine mv rfl rfl ?_
      refine gN rfl rfl (congrArg not (hb97)) ?_
      refine iaP Tryz.underlying66 Tryz.sizeOf74 rfl rfl rfl rfl (lt_of hx87) ?_
      refine gN rfl rfl (congrArg not (hb97)) ?_
      refine fb 1 Tryz.underlying74 rfl rfl rfl rfl Tryz.sizeOf3 ?_
      refine gN rfl rfl (congrArg not (hb97)) ?_
      refine ld Tryz.isAgg3 rfl rfl ((sS 1 rfl hq92).drop 1) rfl ?_
      refine gN rfl rfl (congrArg not (hb97)) ?_
      obtain ⟨r99, hx100, hr101⟩ := bd_some hr98
      refine clS Tryz.call28 rfl rfl rfl rfl (fun w H hH le => w28 x86.speaker 0 999 hx100) ?_
      refine gN rfl rfl (congrArg not (hb97)) ?_
      refine nt rfl rfl ?_
      refine pF rfl rfl (congrArg not (hb97)) rfl ?_
      refine on ?_
      obtain rfl := Option.some.inj hr101
      intro a w hS hA
      exact ⟨hS, hA.cut ⟨rfl, rfl, rfl, trivial⟩⟩
     ·have hr102 := if_f hb97 hr96
      refine gF rfl rfl (congrArg not (hb97)) rfl ?_
      refine gF rfl rfl (congrArg not (hb97)) rfl ?_
      refine gF rfl rfl (congrArg not (hb97)) rfl ?_
      refine gF rfl rfl (congrArg not (hb97)) rfl ?_
      refine gF rfl rfl (congrArg not (hb97)) rfl ?_
      refine gF rfl rfl (congrArg not (hb97)) rfl ?_
      refine gF rfl rfl (congrArg not (hb97)) rfl ?_
      refine gF rfl rfl (congrArg not (hb97)) rfl ?_
      refine pT rfl rfl (congrArg not (hb97)) rfl ?_
      refine on ?_
      obtain rfl := Option.some.inj hr102
      intro a w hS hA
      exact ⟨hS, hA.cut ⟨rfl, rfl, rfl, trivial⟩⟩
    ·rintro a w ⟨hS, hA⟩
     refine TG.ap ?_ hS hA
     refine cb rfl (fun hc106 => ?_) (fun hc106 => ?_)
     ·have hr107 := if_p hc106 hr85
      refine sq ?_
      refine rg ?_
      refine av rfl rfl ?_
      refine on ?_
      refine rt_ ?_
      obtain rfl := Option.some.inj hr107
      obtain rfl := Fin.out hz38
      obtain rfl := Option.some.inj hr34
      intro a w hS hA
      refine ret1 hA rfl rfl ?_
      exact ⟨rfl, hS.ext⟩
     ·have hr108 := if_f hc106 hr85
      refine sk ?_
      refine rg ?_
      refine mv rfl rfl ?_
      refine adI rfl rfl rfl (by omega) ?_
      refine av rfl rfl ?_
      refine on ?_
      obtain rfl := Option.some.inj hr108
      intro a w hS hA
      exact ⟨_, hz38, hS, hA.cut ⟨rfl, rfl, trivial⟩⟩
   ·have hr109 := if_n hc43 hr37
    refine xt rfl ?_
    obtain rfl := Option.some.inj hr109
    obtain rfl := Fin.out hz38
    intro a w hS hA
    exact ⟨_, rfl, hS, hA.cut ⟨rfl, trivial⟩⟩
 ·rintro a w ⟨t35, rfl, hS, hA⟩
  refine TG.ap ?_ hS hA
  refine sq ?_
  obtain ⟨t122, hx123, hr124⟩ := bd_some hr34
  refine jn (fun a w => St [] W H [K5, H] [] w ∧ Has [] 43 a [(2, .bool t122)]) ?_ ?_
  ·refine rg ?_
   refine fb 0 Tryz.underlying68 rfl rfl rfl rfl Tryz.sizeOf66 ?_
   refine ld Tryz.isAgg66 rfl rfl ((sS 0 rfl hK6).take 1) rfl ?_
   refine lnL Tryz.underlying66 rfl rfl ?_
   refine leI rfl rfl rfl ?_
   refine mv rfl rfl ?_
   by_cases hb125 : (r_0.words.length : Int) ≤ 80
   ·have hr126 := if_p hb125 hx123
    refine gN rfl rfl (decide_eq_true hb125) ?_
    refine fb 1 Tryz.underlying68 rfl rfl rfl rfl Tryz.sizeOf3 ?_
    refine gN rfl rfl (decide_eq_true hb125) ?_
    refine ld Tryz.isAgg3 rfl rfl (((sS 0 rfl hK6).drop 1).take 1) rfl ?_
    refine gN rfl rfl (decide_eq_true hb125) ?_
    obtain ⟨r127, hx128, hr129⟩ := bd_some hr126
    refine clS Tryz.call28 rfl rfl rfl rfl (fun w H hH le => w28 r_0.out 0 100000 hx128) ?_
    refine pT rfl rfl (decide_eq_true hb125) rfl ?_
    refine mv rfl rfl ?_
    rcases Bool.eq_false_or_eq_true (r127) with hb130 | hb130
    ·have hr131 := if_p hb130 hr129
     refine gN rfl rfl (hb130) ?_
     refine fb 2 Tryz.underlying68 rfl rfl rfl rfl Tryz.sizeOf3 ?_
     refine gN rfl rfl (hb130) ?_
     refine ld Tryz.isAgg3 rfl rfl ((sS 0 rfl hK6).drop 2) rfl ?_
     refine gN rfl rfl (hb130) ?_
     obtain ⟨r132, hx133, hr134⟩ := bd_some hr131
     refine clS Tryz.call28 rfl rfl rfl rfl (fun w H hH le => w28 r_0.within 0 100000 hx133) ?_
     refine pT rfl rfl (hb130) rfl ?_
     refine av rfl rfl ?_
     refine on ?_
     obtain rfl := Option.some.inj hr134
     intro a w hS hA
     exact ⟨hS, hA.cut ⟨rfl, trivial⟩⟩
    ·have hr135 := if_f hb130 hr129
     refine gF rfl rfl (hb130) rfl ?_
     refine gF rfl rfl (hb130) rfl ?_
     refine gF rfl rfl (hb130) rfl ?_
     refine pF rfl rfl (hb130) rfl ?_
     refine av rfl rfl ?_
     refine on ?_
     obtain rfl := Option.some.inj hr135
     intro a w hS hA
     exact ⟨hS, hA.cut ⟨rfl, trivial⟩⟩
   ·have hr136 := if_n hb125 hx123
    refine gF rfl rfl (decide_eq_false hb125) rfl ?_
    refine gF rfl rfl (decide_eq_false hb125) rfl ?_
    refine gF rfl rfl (decide_eq_false hb125) rfl ?_
    refine pF rfl rfl (decide_eq_false hb125) rfl ?_
    refine mv rfl rfl ?_
    refine gF rfl rfl rfl rfl ?_
    refine gF rfl rfl rfl rfl ?_
    refine gF rfl rfl rfl rfl ?_
    refine pF rfl rfl rfl rfl ?_
    refine av rfl rfl ?_
    refine on ?_
    obtain rfl := Option.some.inj hr136
    intro a w hS hA
    exact ⟨hS, hA.cut ⟨rfl, trivial⟩⟩
  ·rintro a w ⟨hS, hA⟩
   refine TG.ap ?_ hS hA
   refine rt_ ?_
   obtain rfl := Option.some.inj hr124
   intro a w hS hA
   refine ret1 hA rfl rfl ?_
   exact ⟨rfl, hS.ext⟩

theorem w38 {W : World} {H : Hp} (hH : H.le (hp W)) {cs_l_0 : List Value} (l_0 : Lexicon) (h_l_0 : (RLexicon) H cs_l_0 l_0) {ad_swaps : Option Addr} {cap_swaps : Nat} {swaps : List Swap} (h_swaps : Sl (Flat encSwap) 3 H ad_swaps cap_swaps swaps) {cs_r_2 : List Value} (r_2 : Report) (h_r_2 : (RReport) H cs_r_2 r_2) {ad_requests : Option Addr} {cap_requests : Nat} {requests : List Request} (h_requests : Sl (RRequest) 5 H ad_requests cap_requests requests) {r : Int} (hr : m38 l_0 swaps r_2 requests = some r) : Calls Tryz.prog 38 [.agg cs_l_0.toArray, .slice ad_swaps swaps.length cap_swaps, .agg cs_r_2.toArray, .slice ad_requests requests.length cap_requests].toArray W (RetS W (.int .i64 r)) := by
 have hh_l_0 := h_l_0
 obtain ⟨ad1, cap2, ad4, cap5, ad7, cap8, rfl, hl3, hl6, hl9⟩ := h_l_0
 have := hl3.len
 have := hl6.len
 have := hl9.len
 have := h_swaps.len
 have hh_r_2 := h_r_2
 obtain ⟨ad10, cap11, rfl, hl12⟩ := h_r_2
 have := hl12.len
 have := h_requests.len
 unfold m38 at hr
 refine enterG Tryz.func38 rfl Tryz.ntmps38 rfl hH ?_
 refine sq ?_
 refine rg ?_
 refine bI (cs := [.slice ad1 l_0.numbers.length cap2, .slice ad4 l_0.names.length cap5, .slice ad7 l_0.nots.length cap8]) rfl rfl rfl fun q13 K14 hK15 => ?_
 refine bI (cs := [.slice ad10 r_2.words.length cap11, .int .i64 r_2.out, .int .i64 r_2.within]) rfl rfl rfl fun q16 K17 hK18 => ?_
 refine av rfl rfl ?_
 refine on ?_
 refine sq ?_
 refine sq ?_
 refine rg ?_
 refine ldA Tryz.isAgg26 Tryz.sizeOf26 rfl rfl (sS 1 rfl hK15) rfl ?_
 refine mv rfl rfl ?_
 obtain ⟨r19, hx20, hr21⟩ := bd_some hr
 refine clS Tryz.call22 rfl rfl rfl rfl (fun w H hH le => w22 hH l_0 (RLexicon.mono _ _ _ _ (le.at 2 rfl) hh_l_0) (h_swaps.mono (Flat.mono _) (le.at 2 rfl)) hx20) ?_
 refine av rfl rfl ?_
 refine on ?_
 refine sq ?_
 refine rg ?_
 refine mv rfl rfl ?_
 refine neI rfl rfl rfl ?_
 refine on ?_
 refine ci rfl (fun hc25 => ?_) (fun hc25 => ?_)
 ·have hr26 := if_p hc25 hr21
  refine sq ?_
  refine rg ?_
  refine mv rfl rfl ?_
  refine av rfl rfl ?_
  refine on ?_
  refine rt_ ?_
  obtain rfl := Option.some.inj hr26
  intro a w hS hA
  refine ret1 hA rfl rfl ?_
  exact ⟨rfl, hS.ext⟩
 ·have hr27 := if_n hc25 hr21
  refine sk ?_
  refine sq ?_
  refine sq ?_
  refine rg ?_
  refine ldA Tryz.isAgg68 Tryz.sizeOf68 rfl rfl (sS 0 rfl hK18) rfl ?_
  obtain ⟨r28, hx29, hr30⟩ := bd_some hr27
  refine clS Tryz.call37 rfl rfl rfl rfl (fun w H hH le => w37 hH r_2 (RReport.mono _ _ _ _ (le.at 2 rfl) hh_r_2) hx29) ?_
  refine nt rfl rfl ?_
  refine on ?_
  refine cb rfl (fun hc34 => ?_) (fun hc34 => ?_)
  ·replace hc34 := nbt hc34
   have hr35 := if_f hc34 hr30
   refine sq ?_
   refine rg ?_
   refine av rfl rfl ?_
   refine on ?_
   refine rt_ ?_
   obtain rfl := Option.some.inj hr35
   intro a w hS hA
   refine ret1 hA rfl rfl ?_
   exact ⟨rfl, hS.ext⟩
  ·replace hc34 := nbf hc34
   have hr36 := if_p hc34 hr30
   refine sk ?_
   refine sq ?_
   refine sq ?_
   refine rg ?_
   refine mv rfl rfl ?_
   refine lnL Tryz.underlying69 rfl rfl ?_
   refine gtI rfl rfl rfl ?_
   refine on ?_
   refine ci rfl (fun hc40 => ?_) (fun hc40 => ?_)
   ·have hr41 := if_p hc40 hr36
    refine sq ?_
    refine rg ?_
    refine av rfl rfl ?_
    refine on ?_
    refine rt_ ?_
    obtain rfl := Option.some.inj hr41
    intro a w hS hA
    refine ret1 hA rfl rfl ?_
    exact ⟨rfl, hS.ext⟩
   ·have hr42 := if_n hc40 hr36
    refine sk ?_
    refine sq ?_
    refine rg ?_
    refine av rfl rfl ?_
    refine on ?_
    refine rt_ ?_
    obtain rfl := Option.some.inj hr42
    intro a w hS hA
    refine ret1 hA rfl rfl ?_
    exact ⟨rfl, hS.ext⟩

theorem w31 {W : World} {H : Hp} (hH : H.le (hp W)) {cs_r_0 : List Value} (r_0 : Report) (h_r_0 : (RReport) H cs_r_0 r_0) {r : Report} (hr : m31 r_0 = some r) : Calls Tryz.prog 31 [.agg cs_r_0.toArray].toArray W (RetK H W (fun v K => ∃ (cs0 : List Value), v = .agg cs0.toArray ∧ (RReport) K cs0 r)) := by
 have hh_r_0 := h_r_0
 obtain ⟨ad1, cap2, rfl, hl3⟩ := h_r_0
 have := hl3.len
 unfold m31 at hr
 refine enterG Tryz.func31 rfl Tryz.ntmps31 rfl hH ?_
 refine sq ?_
 refine rg ?_
 refine bI (cs := [.slice ad1 r_0.words.length cap2, .int .i64 r_0.out, .int .i64 r_0.within]) rfl rfl rfl fun q4 K5 hK6 => ?_
 refine al 1 (cs := [.slice none 0 0, .int .i64 0, .int .i64 0]) Tryz.zeroValue56 rfl rfl fun b7 => ?_
 refine on ?_
 refine sq ?_
 refine rg ?_
 refine fb 1 Tryz.underlying68 rfl rfl rfl rfl Tryz.sizeOf3 ?_
 refine ld Tryz.isAgg3 rfl rfl (((sS 0 rfl hK6).drop 1).take 1) rfl ?_
 refine fb 2 Tryz.underlying68 rfl rfl rfl rfl Tryz.sizeOf3 ?_
 refine ld Tryz.isAgg3 rfl rfl ((sS 0 rfl hK6).drop 2) rfl ?_
 refine bu (cs := [.slice none 0 0, .int .i64 r_0.out, .int .i64 r_0.within]) T4.B56 rfl rfl rfl ?_
 refine al 2 (cs := [.slice none 0 0, .int .i64 0, .int .i64 0]) Tryz.zeroValue56 rfl rfl fun b8 => ?_
 refine sto 2 (cs := [.slice none 0 0, .int .i64 r_0.out, .int .i64 r_0.within]) Tryz.sizeOf56 rfl rfl rfl rfl rfl rfl rfl ?_
 refine on ?_
 refine sq ?_
 refine sq ?_
 refine rg ?_
 refine av rfl rfl ?_
 refine on ?_
 refine TG.nilRow 4 58 2 ?_
 refine TG.as 4 (z := Own.list none 0 58 2 encSaid ([] : List Said)) rfl rfl ?_
 obtain ⟨e90, hl91, hr92⟩ := bd_some hr
 refine jn (fun a w => ∃ (ad93 : Option Addr) (cap94 : Nat), St [] W H [K5, H] [(4, Own.list ad93 cap94 58 2 encSaid e90), (2, cel b8 56 [.slice ad93 e90.length cap94, .int .i64 r_0.out, .int .i64 r_0.within]), (1, cel b7 56 [.slice none 0 0, .int .i64 0, .int .i64 0])] w ∧ Has [] 36 a [(2, .pointer (some (⟨b7, 0, none⟩))), (3, .pointer (some (⟨b8, 0, none⟩)))]) ?_ ?_
 ·refine bk ?_
  refine lp hl91 (fun s95 a w => ∃ (ad96 : Option Addr) (cap97 : Nat), St [] W H [K5, H] [(4, Own.list ad96 cap97 58 2 encSaid s95.2), (2, cel b8 56 [.slice ad96 s95.2.length cap97, .int .i64 r_0.out, .int .i64 r_0.within]), (1, cel b7 56 [.slice none 0 0, .int .i64 0, .int .i64 0])] w ∧ Has [] 36 a [(1, .pointer (some q4)), (2, .pointer (some (⟨b7, 0, none⟩))), (3, .pointer (some (⟨b8, 0, none⟩))), (4, .int .i64 (s95.1 : Int))]) ?_ ?_
  ·intro a w hS hA
   exact ⟨none, 0, hS, hA.cut ⟨rfl, rfl, rfl, rfl, trivial⟩⟩
  ·rintro j s95 y100 hr98 hz99 a w ⟨ad96, cap97, hS, hA⟩
   refine TG.ap ?_ hS hA
   unfold m31_1 at hr98
   refine sq ?_
   refine sq ?_
   refine rg ?_
   refine mv rfl rfl ?_
   refine fb 0 Tryz.underlying68 rfl rfl rfl rfl Tryz.sizeOf66 ?_
   refine ld Tryz.isAgg66 rfl rfl ((sS 0 rfl hK6).take 1) rfl ?_
   refine lnL Tryz.underlying66 rfl rfl ?_
   refine ltI rfl rfl rfl ?_
   refine on ?_
   refine ci rfl (fun hc104 => ?_) (fun hc104 => ?_)
   ·have hr105 := if_p hc104 hr98
    refine sk ?_
    refine sq ?_
    refine bk ?_
    obtain ⟨x127, hx128, hr129⟩ := bd_some hr105
    obtain ⟨p130, rfl⟩ := hl3.adr hx128
    obtain ⟨cs131, hcs132, hq133, hr134⟩ := hl3.at hx128
    obtain rfl := hr134
    refine drG 16 T4.mixed (by kernel_rfl) rfl ?_
    refine DF.det rfl (fun a w K hS hA hF => TG.pa hS hA (fb 0 Tryz.underlying56 rfl rfl rfl rfl Tryz.sizeOf54 fin1)) ?_
    refine DF.det rfl (fun a w K hS hA hF => TG.pa hS hA (ld Tryz.isAgg54 rfl rfl ((sO 2 rfl).take 1) rfl fin1)) ?_
    refine DF.det rfl (fun a w K hS hA hF => TG.pa hS hA (fb 0 Tryz.underlying68 rfl rfl rfl rfl Tryz.sizeOf66 fin1)) ?_
    refine DF.det rfl (fun a w K hS hA hF => TG.pa hS hA (ld Tryz.isAgg66 rfl rfl ((sS 1 rfl hK6).take 1) rfl fin1)) ?_
    refine DF.det rfl (fun a w K hS hA hF => TG.pa hS hA (mv rfl rfl fin1)) ?_
    refine DF.det rfl (fun a w K hS hA hF => TG.pa hS hA (iaP Tryz.underlying66 Tryz.sizeOf74 rfl rfl rfl rfl (lt_of hx128) fin1)) ?_
    refine DF.det rfl (fun a w K hS hA hF => TG.pa hS hA (fb 0 Tryz.underlying74 rfl rfl rfl rfl Tryz.sizeOf9 fin1)) ?_
    refine DF.det rfl (fun a w K hS hA hF => TG.pa hS hA (ld Tryz.isAgg9 rfl rfl ((sS 2 rfl hq133).take 1) rfl fin1)) ?_
    refine DF.det rfl (fun a w K hS hA hF => TG.pa hS hA (fb 0 Tryz.underlying68 rfl rfl rfl rfl Tryz.sizeOf66 fin1)) ?_
    refine DF.det rfl (fun a w K hS hA hF => TG.pa hS hA (ld Tryz.isAgg66 rfl rfl ((sS 1 rfl hK6).take 1) rfl fin1)) ?_
    refine DF.det rfl (fun a w K hS hA hF => TG.pa hS hA (mv rfl rfl fin1)) ?_
    refine DF.det rfl (fun a w K hS hA hF => TG.pa hS hA (iaP Tryz.underlying66 Tryz.sizeOf74 rfl rfl rfl rfl (lt_of hx128) fin1)) ?_
    refine DF.det rfl (fun a w K hS hA hF => TG.pa hS hA (fb 1 Tryz.underlying74 rfl rfl rfl rfl Tryz.sizeOf3 fin1)) ?_
    refine DF.det rfl (fun a w K hS hA hF => TG.pa hS hA (ld Tryz.isAgg3 rfl rfl ((sS 2 rfl hq133).drop 1) rfl fin1)) ?_
    refine DF.det rfl (fun a w K hS hA hF => TG.pa hS hA (bu (cs := [.string (bs x127.text), .int .i64 x127.speaker]) T4.B58 rfl rfl rfl fin1)) ?_
    refine DF.und (α := Option Addr × Nat) (none, 0) (fun q => .slice q.1 1 q.2) (fun (q : Option Addr × Nat) K => Sl (Flat encSaid) 2 K q.1 q.2 ([x127] : List Said)) (fun _ _ _ h x => x.mono (Flat.mono _) h) (by kernel_rfl) rfl (fun a w K hS hA hF => TG.pa hS hA (bS (cs := [.string (bs x127.text), .int .i64 x127.speaker]) T4.E54 rfl rfl rfl rfl fun q135 K136 hq137 hK138 => by
      have hl139 : Sl (Flat encSaid) 2 K136 (some q135) 1 ([x127] : List Said) := Sl.litR (css := [[.string (bs x127.text), .int .i64 x127.speaker]]) (l := ([x127] : List Said)) ⟨⟨rfl, rfl, rfl⟩, trivial⟩ hq137 hK138 rfl
      have := hl139.len
      exact finU (f := fun q => .slice q.1 1 q.2) (G := (fun (q : Option Addr × Nat) K => Sl (Flat encSaid) 2 K q.1 q.2 ([x127] : List Said))) (_, _) (fun _ _ _ h x => x.mono (Flat.mono _) h) hl139)) ?_
    rintro ⟨ad141, cap142⟩
    refine DF.nil fun K143 hF => ?_
    obtain ⟨hu140, _⟩ := hF
    have := hu140.len
    obtain ⟨hk144, hr145⟩ := chk_some hr129
    have := lenA s95.2 ([x127] : List Said)
    refine apS 4 (enc := encSaid) (l := s95.2) (m := ([x127] : List Said)) T4.E54 rfl rfl rfl rfl rfl rfl hu140 0 rfl (fun _ => rfl) (fun _ => rfl) rfl hk144 fun ad146 cap147 => ?_
    refine fb 0 Tryz.underlying56 rfl rfl rfl rfl Tryz.sizeOf54 ?_
    refine sto 2 (cs := [.slice ad146 ((s95.2 ++ ([x127] : List Said)).length) cap147]) Tryz.sizeOf54 rfl rfl rfl rfl rfl rfl rfl ?_
    refine on ?_
    refine rg ?_
    refine mv rfl rfl ?_
    refine adI rfl rfl rfl (by omega) ?_
    refine av rfl rfl ?_
    refine on ?_
    obtain rfl := Option.some.inj hr145
    intro a w hS hA
    exact ⟨_, hz99, ad146, cap147, hS.selH [1, 2] rfl, hA.cut ⟨rfl, rfl, rfl, rfl, trivial⟩⟩
   ·have hr148 := if_n hc104 hr98
    refine xt rfl ?_
    obtain rfl := Option.some.inj hr148
    obtain rfl := Fin.out hz99
    intro a w hS hA
    exact ⟨ad96, cap97, hS, hA.cut ⟨rfl, rfl, trivial⟩⟩
 ·rintro a w ⟨ad93, cap94, hS, hA⟩
  refine TG.ap ?_ hS hA
  refine sq ?_
  refine rg ?_
  refine ldA Tryz.isAgg56 Tryz.sizeOf56 rfl rfl (sO 2 rfl) rfl ?_
  refine sto 1 (cs := [.slice ad93 e90.length cap94, .int .i64 r_0.out, .int .i64 r_0.within]) Tryz.sizeOf56 rfl rfl rfl rfl rfl rfl rfl ?_
  refine on ?_
  refine rt_ ?_
  obtain rfl := Option.some.inj hr92
  intro a w hS hA
  refine rc1 hA rfl (ResAt.cell rfl (loadsA Tryz.isAgg56 Tryz.sizeOf56 (cell_at (hS.get (t := 1) rfl)) rfl)) ?_
  exact ⟨⟨_, rfl, ⟨_, _, rfl, (hS.listOut 4 rfl (fun _ => rfl))⟩⟩, hS.ext⟩

theorem w32 {W : World} {H : Hp} (hH : H.le (hp W)) {ad_l_0 : Option Addr} {cap_l_0 : Nat} {l_0 : List Request} (h_l_0 : Sl (RRequest) 5 H ad_l_0 cap_l_0 l_0) {r : List Request} (hr : m32 l_0 = some r) : Calls Tryz.prog 32 [.slice ad_l_0 l_0.length cap_l_0].toArray W (RetK H W (fun v K => ∃ (ad0 : Option Addr) (cap0 : Nat), v = .slice ad0 r.length cap0 ∧ Sl (RRequest) 5 K ad0 cap0 r)) := by
 have := h_l_0.len
 unfold m32 at hr
 refine enterG Tryz.func32 rfl Tryz.ntmps32 rfl hH ?_
 refine sq ?_
 refine rg ?_
 refine av rfl rfl ?_
 refine on ?_
 refine sq ?_
 refine rg ?_
 refine av rfl rfl ?_
 refine on ?_
 refine sq ?_
 refine sq ?_
 refine rg ?_
 refine av rfl rfl ?_
 refine on ?_
 refine TG.nilRow 2 63 5 ?_
 have hR51 : Rows (RRequest) 5 H [] ([] : List Request) := trivial
 refine TG.as 2 (z := Own.rows none 0 63 5 [] ([] : List Request)) rfl rfl ?_
 obtain ⟨e165, hl166, hr167⟩ := bd_some hr
 refine jn (fun a w => ∃ (ad168 : Option Addr) (cap169 : Nat) (css170 : List (List Value)) (K171 : Hp), St [] W H [K171, H] [(2, Own.rows ad168 cap169 63 5 css170 e165)] w ∧ Has [] 32 a [(3, .slice ad168 e165.length cap169)] ∧ Rows (RRequest) 5 K171 css170 e165) ?_ ?_
 ·refine bk ?_
  refine lp hl166 (fun s173 a w => ∃ (ad174 : Option Addr) (cap175 : Nat) (css176 : List (List Value)) (K177 : Hp), St [] W H [K177, H] [(2, Own.rows ad174 cap175 63 5 css176 s173.2)] w ∧ Has [] 32 a [(0, .slice ad_l_0 l_0.length cap_l_0), (3, .slice ad174 s173.2.length cap175), (4, .int .i64 (s173.1 : Int))] ∧ Rows (RRequest) 5 K177 css176 s173.2) ?_ ?_
  ·intro a w hS hA
   exact ⟨none, 0, [], H, hS.selH [0, 0] rfl, hA.cut ⟨rfl, rfl, rfl, trivial⟩, hR51⟩
  ·rintro j s173 y181 hr179 hz180 a w ⟨ad174, cap175, css176, K177, hS, hA, hR178⟩
   refine TG.ap ?_ hS hA
   unfold m32_1 at hr179
   refine sq ?_
   refine sq ?_
   refine rg ?_
   refine mv rfl rfl ?_
   refine mv rfl rfl ?_
   refine lnL Tryz.underlying69 rfl rfl ?_
   refine ltI rfl rfl rfl ?_
   refine on ?_
   refine ci rfl (fun hc185 => ?_) (fun hc185 => ?_)
   ·have hr186 := if_p hc185 hr179
    refine sk ?_
    refine sq ?_
    refine bk ?_
    refine sq ?_
    refine rg ?_
    refine mv rfl rfl ?_
    refine mv rfl rfl ?_
    obtain ⟨x232, hx233, hr234⟩ := bd_some hr186
    obtain ⟨p235, rfl⟩ := h_l_0.adr hx233
    obtain ⟨cs236, hcs237, hq238, hr239⟩ := h_l_0.at hx233
    have hr240 := hr239
    obtain ⟨ad241, cap242, rfl, hl243⟩ := hr239
    have := hl243.len
    refine iaP Tryz.underlying69 Tryz.sizeOf73 rfl rfl rfl rfl (lt_of hx233) ?_
    refine ldA Tryz.isAgg73 Tryz.sizeOf73 rfl rfl (sS 1 rfl hq238) rfl ?_
    refine va (cs := [.int .i64 x232.by_, .int .i64 x232.minute, .int .i64 x232.from_, .int .i64 x232.cut, .slice ad241 x232.put_.length cap242]) Tryz.zeroValue73 Tryz.sizeOf73 rfl rfl rfl rfl rfl rfl rfl rfl fun q244 K245 hK246 => ?_
    refine on ?_
    obtain ⟨r247, hx248, hr249⟩ := bd_some hr234
    refine drG 14 T4.mixed (by kernel_rfl) rfl ?_
    refine DF.det rfl (fun a w K hS hA hF => TG.pa hS hA (mv rfl rfl fin1)) ?_
    refine DF.det rfl (fun a w K hS hA hF => TG.pa hS hA (fb 0 Tryz.underlying73 rfl rfl rfl rfl Tryz.sizeOf3 fin1)) ?_
    refine DF.det rfl (fun a w K hS hA hF => TG.pa hS hA (ld Tryz.isAgg3 rfl rfl ((sS 1 rfl hK246).take 1) rfl fin1)) ?_
    refine DF.det rfl (fun a w K hS hA hF => TG.pa hS hA (fb 1 Tryz.underlying73 rfl rfl rfl rfl Tryz.sizeOf3 fin1)) ?_
    refine DF.det rfl (fun a w K hS hA hF => TG.pa hS hA (ld Tryz.isAgg3 rfl rfl (((sS 1 rfl hK246).drop 1).take 1) rfl fin1)) ?_
    refine DF.det rfl (fun a w K hS hA hF => TG.pa hS hA (fb 2 Tryz.underlying73 rfl rfl rfl rfl Tryz.sizeOf3 fin1)) ?_
    refine DF.det rfl (fun a w K hS hA hF => TG.pa hS hA (ld Tryz.isAgg3 rfl rfl (((sS 1 rfl hK246).drop 2).take 1) rfl fin1)) ?_
    refine DF.det rfl (fun a w K hS hA hF => TG.pa hS hA (fb 3 Tryz.underlying73 rfl rfl rfl rfl Tryz.sizeOf3 fin1)) ?_
    refine DF.det rfl (fun a w K hS hA hF => TG.pa hS hA (ld Tryz.isAgg3 rfl rfl (((sS 1 rfl hK246).drop 3).take 1) rfl fin1)) ?_
    refine DF.det rfl (fun a w K hS hA hF => TG.pa hS hA (fb 4 Tryz.underlying73 rfl rfl rfl rfl Tryz.sizeOf24 fin1)) ?_
    refine DF.det rfl (fun a w K hS hA hF => TG.pa hS hA (ld Tryz.isAgg24 rfl rfl ((sS 1 rfl hK246).drop 4) rfl fin1)) ?_
    refine DF.und (α := Option Addr × Nat) (none, 0) (fun q => .slice q.1 r247.length q.2) (fun (q : Option Addr × Nat) K => Sl (Flat encS) 1 K q.1 q.2 r247) (fun _ _ _ h x => x.mono (Flat.mono _) h) (by kernel_rfl) rfl (fun a w K hS hA hF => TG.pa hS hA (clK Tryz.call21 rfl rfl rfl rfl (fun w H hH le => w21 hH (hl243.mono (Flat.mono _) (le.at 3 rfl)) hx248) (by
      rintro v_ K250 ⟨ad251, cap252, rfl, hl253⟩
      exact finU (f := fun q => .slice q.1 r247.length q.2) (G := (fun (q : Option Addr × Nat) K => Sl (Flat encS) 1 K q.1 q.2 r247)) (_, _) (fun _ _ _ h x => x.mono (Flat.mono _) h) hl253))) ?_
    rintro ⟨ad255, cap256⟩
    refine DF.und () (fun _ => .agg [.int .i64 x232.by_, .int .i64 x232.minute, .int .i64 x232.from_, .int .i64 x232.cut, .slice ad255 r247.length cap256].toArray) (fun _ K => Sl (Flat encS) 1 K ad255 cap256 r247) (fun _ _ _ h x => x.mono (Flat.mono _) h) (by kernel_rfl) rfl (fun a w K hS hA hF => TG.pa hS hA (bu (cs := [.int .i64 x232.by_, .int .i64 x232.minute, .int .i64 x232.from_, .int .i64 x232.cut, .slice ad255 r247.length cap256]) T4.B63 rfl rfl rfl (finF (f := fun _ => .agg [.int .i64 x232.by_, .int .i64 x232.minute, .int .i64 x232.from_, .int .i64 x232.cut, .slice ad255 r247.length cap256].toArray) (G := fun _ K => Sl (Flat encS) 1 K ad255 cap256 r247) () (hF.1 rfl)))) fun _ => ?_
    refine DF.und (α := Option Addr × Nat) (none, 0) (fun q => .slice q.1 1 q.2) (fun (q : Option Addr × Nat) K => Sl (RRequest) 5 K q.1 q.2 ([(⟨x232.by_, x232.minute, x232.from_, x232.cut, r247⟩ : Request)] : List Request)) (fun _ _ _ h x => x.mono (RRequest.mono) h) (by kernel_rfl) rfl (fun a w K hS hA hF => TG.pa hS hA (bS (cs := [.int .i64 x232.by_, .int .i64 x232.minute, .int .i64 x232.from_, .int .i64 x232.cut, .slice ad255 r247.length cap256]) T4.E64 rfl rfl rfl rfl fun q258 K259 hq260 hK261 => by
      refine TG.pack (fun K => Sl (RRequest) 5 K (some q258) 1 ([(⟨x232.by_, x232.minute, x232.from_, x232.cut, r247⟩ : Request)] : List Request)) (fun H le => Sl.litR (css := [[.int .i64 x232.by_, .int .i64 x232.minute, .int .i64 x232.from_, .int .i64 x232.cut, .slice ad255 r247.length cap256]]) (l := ([(⟨x232.by_, x232.minute, x232.from_, x232.cut, r247⟩ : Request)] : List Request)) ⟨⟨rfl, rfl, ⟨_, _, rfl, ((hF.1 rfl).mono (Flat.mono _) (le.at 1 rfl))⟩⟩, trivial⟩ hq260 (hK261.mono (le.at 0 rfl)) rfl) fun K263 hl262 => ?_
      have := hl262.len
      refine sk1 ?_
      exact finU (f := fun q => .slice q.1 1 q.2) (G := (fun (q : Option Addr × Nat) K => Sl (RRequest) 5 K q.1 q.2 ([(⟨x232.by_, x232.minute, x232.from_, x232.cut, r247⟩ : Request)] : List Request))) (_, _) (fun _ _ _ h x => x.mono (RRequest.mono) h) hl262)) ?_
    rintro ⟨ad265, cap266⟩
    refine DF.nil fun K267 hF => ?_
    obtain ⟨hu264, hu257, hu254, _⟩ := hF
    have := hu254.len
    have := hu264.len
    obtain ⟨hk268, hr269⟩ := chk_some hr249
    have := lenA s173.2 ([(⟨x232.by_, x232.minute, x232.from_, x232.cut, r247⟩ : Request)] : List Request)
    refine TG.pack (fun K => Sl (RRequest) 5 K ad265 cap266 ([(⟨x232.by_, x232.minute, x232.from_, x232.cut, r247⟩ : Request)] : List Request) ∧ Rows (RRequest) 5 K css176 s173.2) (fun H le => ⟨hu264.mono (RRequest.mono) (le.at 0 rfl), hR178.mono (RRequest.mono) (le.at 2 rfl)⟩) fun K272 ⟨hm273, hR274⟩ => ?_
    refine apR 2 (l := s173.2) (m := ([(⟨x232.by_, x232.minute, x232.from_, x232.cut, r247⟩ : Request)] : List Request)) T4.E64 rfl rfl rfl rfl rfl rfl hm273 hR274 RRequest.one rfl hk268 fun ad270 cap271 css276 hR275 => ?_
    refine av rfl rfl ?_
    refine on ?_
    refine rg ?_
    refine mv rfl rfl ?_
    refine adI rfl rfl rfl (by omega) ?_
    refine av rfl rfl ?_
    refine on ?_
    obtain rfl := Option.some.inj hr269
    intro a w hS hA
    exact ⟨_, hz180, ad270, cap271, css276, K272, hS.selH [0, 4] rfl, hA.cut ⟨rfl, rfl, rfl, trivial⟩, hR275⟩
   ·have hr277 := if_n hc185 hr179
    refine xt rfl ?_
    obtain rfl := Option.some.inj hr277
    obtain rfl := Fin.out hz180
    intro a w hS hA
    exact ⟨ad174, cap175, css176, K177, hS, hA.cut ⟨rfl, trivial⟩, hR178⟩
 ·rintro a w ⟨ad168, cap169, css170, K171, hS, hA, hR172⟩
  refine TG.ap ?_ hS hA
  refine sq ?_
  refine rg ?_
  refine mv rfl rfl ?_
  refine av rfl rfl ?_
  refine on ?_
  refine rt_ ?_
  obtain rfl := Option.some.inj hr167
  intro a w hS hA
  refine ret1 hA rfl rfl ?_
  exact ⟨⟨_, _, rfl, (hS.rowsOut 2 rfl 0 rfl (RRequest.mono) hR172)⟩, hS.ext⟩

theorem w33 {W : World} {H : Hp} (hH : H.le (hp W)) {cs_a_0 : List Value} (a_0 : Request) (h_a_0 : (RRequest) H cs_a_0 a_0) {cs_b_1 : List Value} (b_1 : Request) (h_b_1 : (RRequest) H cs_b_1 b_1) {r : Bool} (hr : m33 a_0 b_1 = some r) : Calls Tryz.prog 33 [.agg cs_a_0.toArray, .agg cs_b_1.toArray].toArray W (RetS W (.bool r)) := by
 have hh_a_0 := h_a_0
 obtain ⟨ad1, cap2, rfl, hl3⟩ := h_a_0
 have := hl3.len
 have hh_b_1 := h_b_1
 obtain ⟨ad4, cap5, rfl, hl6⟩ := h_b_1
 have := hl6.len
 unfold m33 at hr
 refine enterG Tryz.func33 rfl Tryz.ntmps33 rfl hH ?_
 refine sq ?_
 refine rg ?_
 refine bI (cs := [.int .i64 a_0.by_, .int .i64 a_0.minute, .int .i64 a_0.from_, .int .i64 a_0.cut, .slice ad1 a_0.put_.length cap2]) rfl rfl rfl fun q7 K8 hK9 => ?_
 refine bI (cs := [.int .i64 b_1.by_, .int .i64 b_1.minute, .int .i64 b_1.from_, .int .i64 b_1.cut, .slice ad4 b_1.put_.length cap5]) rfl rfl rfl fun q10 K11 hK12 => ?_
 refine av rfl rfl ?_
 refine on ?_
 refine sq ?_
 obtain ⟨hk13, hr14⟩ := chk_some hr
 obtain ⟨hk15, hr16⟩ := chk_some hr14
 refine drG 11 T4.mixed (by kernel_rfl) rfl ?_
 refine DF.det rfl (fun a w K hS hA hF => TG.pa hS hA (fb 2 Tryz.underlying73 rfl rfl rfl rfl Tryz.sizeOf3 fin1)) ?_
 refine DF.det rfl (fun a w K hS hA hF => TG.pa hS hA (ld Tryz.isAgg3 rfl rfl (((sS 2 rfl hK9).drop 2).take 1) rfl fin1)) ?_
 refine DF.det rfl (fun a w K hS hA hF => TG.pa hS hA (fb 3 Tryz.underlying73 rfl rfl rfl rfl Tryz.sizeOf3 fin1)) ?_
 refine DF.det rfl (fun a w K hS hA hF => TG.pa hS hA (ld Tryz.isAgg3 rfl rfl (((sS 2 rfl hK9).drop 3).take 1) rfl fin1)) ?_
 refine DF.det rfl (fun a w K hS hA hF => TG.pa hS hA (adI rfl rfl rfl hk13 fin1)) ?_
 refine DF.det rfl (fun a w K hS hA hF => TG.pa hS hA (fb 2 Tryz.underlying73 rfl rfl rfl rfl Tryz.sizeOf3 fin1)) ?_
 refine DF.det rfl (fun a w K hS hA hF => TG.pa hS hA (ld Tryz.isAgg3 rfl rfl (((sS 1 rfl hK12).drop 2).take 1) rfl fin1)) ?_
 refine DF.det rfl (fun a w K hS hA hF => TG.pa hS hA (fb 3 Tryz.underlying73 rfl rfl rfl rfl Tryz.sizeOf3 fin1)) ?_
 refine DF.det rfl (fun a w K hS hA hF => TG.pa hS hA (ld Tryz.isAgg3 rfl rfl (((sS 1 rfl hK12).drop 3).take 1) rfl fin1)) ?_
 refine DF.det rfl (fun a w K hS hA hF => TG.pa hS hA (adI rfl rfl rfl hk15 fin1)) ?_
 refine DF.det rfl (fun a w K hS hA hF => TG.pa hS hA (av rfl rfl fin1)) ?_
 refine DF.nil fun K17 hF => ?_
 refine av rfl rfl ?_
 refine on ?_
 refine sq ?_
 refine sq ?_
 obtain ⟨t21, hx22, hr23⟩ := bd_some hr16
 refine jn (fun a w => St [] W H [K17, K11, K8, H] [] w ∧ Has [] 68 a [(2, .pointer (some q7)), (3, .pointer (some q10)), (5, .int .i64 (a_0.from_ + a_0.cut)), (6, .int .i64 (b_1.from_ + b_1.cut)), (24, .bool t21)]) ?_ ?_
 ·refine rg ?_
  refine fb 3 Tryz.underlying73 rfl rfl rfl rfl Tryz.sizeOf3 ?_
  refine ld Tryz.isAgg3 rfl rfl (((sS 2 rfl hK9).drop 3).take 1) rfl ?_
  refine eqI rfl rfl rfl ?_
  refine mv rfl rfl ?_
  by_cases hb24 : a_0.cut = 0
  ·have hr25 := if_p hb24 hx22
   refine gN rfl rfl (decide_eq_true hb24) ?_
   refine fb 3 Tryz.underlying73 rfl rfl rfl rfl Tryz.sizeOf3 ?_
   refine gN rfl rfl (decide_eq_true hb24) ?_
   refine ld Tryz.isAgg3 rfl rfl (((sS 1 rfl hK12).drop 3).take 1) rfl ?_
   refine gN rfl rfl (decide_eq_true hb24) ?_
   refine eqI rfl rfl rfl ?_
   refine pT rfl rfl (decide_eq_true hb24) rfl ?_
   refine on ?_
   obtain rfl := Option.some.inj hr25
   intro a w hS hA
   exact ⟨hS, hA.cut ⟨rfl, rfl, rfl, rfl, rfl, trivial⟩⟩
  ·have hr26 := if_n hb24 hx22
   refine gF rfl rfl (decide_eq_false hb24) rfl ?_
   refine gF rfl rfl (decide_eq_false hb24) rfl ?_
   refine gF rfl rfl (decide_eq_false hb24) rfl ?_
   refine pF rfl rfl (decide_eq_false hb24) rfl ?_
   refine on ?_
   obtain rfl := Option.some.inj hr26
   intro a w hS hA
   exact ⟨hS, hA.cut ⟨rfl, rfl, rfl, rfl, rfl, trivial⟩⟩
 ·rintro a w ⟨hS, hA⟩
  refine TG.ap ?_ hS hA
  refine cb rfl (fun hc30 => ?_) (fun hc30 => ?_)
  ·have hr31 := if_p hc30 hr23
   refine sq ?_
   refine rg ?_
   refine fb 2 Tryz.underlying73 rfl rfl rfl rfl Tryz.sizeOf3 ?_
   refine ld Tryz.isAgg3 rfl rfl (((sS 2 rfl hK9).drop 2).take 1) rfl ?_
   refine fb 2 Tryz.underlying73 rfl rfl rfl rfl Tryz.sizeOf3 ?_
   refine ld Tryz.isAgg3 rfl rfl (((sS 1 rfl hK12).drop 2).take 1) rfl ?_
   refine eqI rfl rfl rfl ?_
   refine av rfl rfl ?_
   refine on ?_
   refine rt_ ?_
   obtain rfl := Option.some.inj hr31
   intro a w hS hA
   refine ret1 hA rfl rfl ?_
   exact ⟨rfl, hS.ext⟩
  ·have hr32 := if_f hc30 hr23
   refine sk ?_
   refine sq ?_
   refine sq ?_
   refine rg ?_
   refine fb 3 Tryz.underlying73 rfl rfl rfl rfl Tryz.sizeOf3 ?_
   refine ld Tryz.isAgg3 rfl rfl (((sS 2 rfl hK9).drop 3).take 1) rfl ?_
   refine eqI rfl rfl rfl ?_
   refine on ?_
   refine ci rfl (fun hc40 => ?_) (fun hc40 => ?_)
   ·have hr41 := if_p hc40 hr32
    refine sq ?_
    obtain ⟨t45, hx46, hr47⟩ := bd_some hr41
    refine jn (fun a w => St [] W H [K17, K11, K8, H] [] w ∧ Has [] 68 a [(4, .bool t45)]) ?_ ?_
    ·refine rg ?_
     refine fb 2 Tryz.underlying73 rfl rfl rfl rfl Tryz.sizeOf3 ?_
     refine ld Tryz.isAgg3 rfl rfl (((sS 2 rfl hK9).drop 2).take 1) rfl ?_
     refine fb 2 Tryz.underlying73 rfl rfl rfl rfl Tryz.sizeOf3 ?_
     refine ld Tryz.isAgg3 rfl rfl (((sS 1 rfl hK12).drop 2).take 1) rfl ?_
     refine gtI rfl rfl rfl ?_
     refine mv rfl rfl ?_
     by_cases hb48 : b_1.from_ < a_0.from_
     ·have hr49 := if_p hb48 hx46
      refine gN rfl rfl (decide_eq_true hb48) ?_
      refine fb 2 Tryz.underlying73 rfl rfl rfl rfl Tryz.sizeOf3 ?_
      refine gN rfl rfl (decide_eq_true hb48) ?_
      refine ld Tryz.isAgg3 rfl rfl (((sS 2 rfl hK9).drop 2).take 1) rfl ?_
      refine gN rfl rfl (decide_eq_true hb48) ?_
      refine mv rfl rfl ?_
      refine gN rfl rfl (decide_eq_true hb48) ?_
      refine ltI rfl rfl rfl ?_
      refine pT rfl rfl (decide_eq_true hb48) rfl ?_
      refine av rfl rfl ?_
      refine on ?_
      obtain rfl := Option.some.inj hr49
      intro a w hS hA
      exact ⟨hS, hA.cut ⟨rfl, trivial⟩⟩
     ·have hr50 := if_n hb48 hx46
      refine gF rfl rfl (decide_eq_false hb48) rfl ?_
      refine gF rfl rfl (decide_eq_false hb48) rfl ?_
      refine gF rfl rfl (decide_eq_false hb48) rfl ?_
      refine gF rfl rfl (decide_eq_false hb48) rfl ?_
      refine pF rfl rfl (decide_eq_false hb48) rfl ?_
      refine av rfl rfl ?_
      refine on ?_
      obtain rfl := Option.some.inj hr50
      intro a w hS hA
      exact ⟨hS, hA.cut ⟨rfl, trivial⟩⟩
    ·rintro a w ⟨hS, hA⟩
     refine TG.ap ?_ hS hA
     refine rt_ ?_
     obtain rfl := Option.some.inj hr47
     intro a w hS hA
     refine ret1 hA rfl rfl ?_
     exact ⟨rfl, hS.ext⟩
   ·have hr51 := if_n hc40 hr32
    refine sk ?_
    refine sq ?_
    refine sq ?_
    refine rg ?_
    refine fb 3 Tryz.underlying73 rfl rfl rfl rfl Tryz.sizeOf3 ?_
    refine ld Tryz.isAgg3 rfl rfl (((sS 1 rfl hK12).drop 3).take 1) rfl ?_
    refine eqI rfl rfl rfl ?_
    refine on ?_
    refine ci rfl (fun hc59 => ?_) (fun hc59 => ?_)
    ·have hr60 := if_p hc59 hr51
     refine sq ?_
     obtain ⟨t64, hx65, hr66⟩ := bd_some hr60
     refine jn (fun a w => St [] W H [K17, K11, K8, H] [] w ∧ Has [] 68 a [(4, .bool t64)]) ?_ ?_
     ·refine rg ?_
      refine fb 2 Tryz.underlying73 rfl rfl rfl rfl Tryz.sizeOf3 ?_
      refine ld Tryz.isAgg3 rfl rfl (((sS 1 rfl hK12).drop 2).take 1) rfl ?_
      refine fb 2 Tryz.underlying73 rfl rfl rfl rfl Tryz.sizeOf3 ?_
      refine ld Tryz.isAgg3 rfl rfl (((sS 2 rfl hK9).drop 2).take 1) rfl ?_
      refine gtI rfl rfl rfl ?_
      refine mv rfl rfl ?_
      by_cases hb67 : a_0.from_ < b_1.from_
      ·have hr68 := if_p hb67 hx65
       refine gN rfl rfl (decide_eq_true hb67) ?_
       refine fb 2 Tryz.underlying73 rfl rfl rfl rfl Tryz.sizeOf3 ?_
       refine gN rfl rfl (decide_eq_true hb67) ?_
       refine ld Tryz.isAgg3 rfl rfl (((sS 1 rfl hK12).drop 2).take 1) rfl ?_
       refine gN rfl rfl (decide_eq_true hb67) ?_
       refine mv rfl rfl ?_
       refine gN rfl rfl (decide_eq_true hb67) ?_
       refine ltI rfl rfl rfl ?_
       refine pT rfl rfl (decide_eq_true hb67) rfl ?_
       refine av rfl rfl ?_
       refine on ?_
       obtain rfl := Option.some.inj hr68
       intro a w hS hA
       exact ⟨hS, hA.cut ⟨rfl, trivial⟩⟩
      ·have hr69 := if_n hb67 hx65
       refine gF rfl rfl (decide_eq_false hb67) rfl ?_
       refine gF rfl rfl (decide_eq_false hb67) rfl ?_
       refine gF rfl rfl (decide_eq_false hb67) rfl ?_
       refine gF rfl rfl (decide_eq_false hb67) rfl ?_
       refine pF rfl rfl (decide_eq_false hb67) rfl ?_
       refine av rfl rfl ?_
       refine on ?_
       obtain rfl := Option.some.inj hr69
       intro a w hS hA
       exact ⟨hS, hA.cut ⟨rfl, trivial⟩⟩
     ·rintro a w ⟨hS, hA⟩
      refine TG.ap ?_ hS hA
      refine rt_ ?_
      obtain rfl := Option.some.inj hr66
      intro a w hS hA
      refine ret1 hA rfl rfl ?_
      exact ⟨rfl, hS.ext⟩
    ·have hr70 := if_n hc59 hr51
     refine sk ?_
     refine sq ?_
     obtain ⟨t74, hx75, hr76⟩ := bd_some hr70
     refine jn (fun a w => St [] W H [K17, K11, K8, H] [] w ∧ Has [] 68 a [(4, .bool t74)]) ?_ ?_
     ·refine rg ?_
      refine fb 2 Tryz.underlying73 rfl rfl rfl rfl Tryz.sizeOf3 ?_
      refine ld Tryz.isAgg3 rfl rfl (((sS 2 rfl hK9).drop 2).take 1) rfl ?_
      refine mv rfl rfl ?_
      refine ltI rfl rfl rfl ?_
      refine mv rfl rfl ?_
      by_cases hb77 : a_0.from_ < (b_1.from_ + b_1.cut)
      ·have hr78 := if_p hb77 hx75
       refine gN rfl rfl (decide_eq_true hb77) ?_
       refine fb 2 Tryz.underlying73 rfl rfl rfl rfl Tryz.sizeOf3 ?_
       refine gN rfl rfl (decide_eq_true hb77) ?_
       refine ld Tryz.isAgg3 rfl rfl (((sS 1 rfl hK12).drop 2).take 1) rfl ?_
       refine gN rfl rfl (decide_eq_true hb77) ?_
       refine mv rfl rfl ?_
       refine gN rfl rfl (decide_eq_true hb77) ?_
       refine ltI rfl rfl rfl ?_
       refine pT rfl rfl (decide_eq_true hb77) rfl ?_
       refine av rfl rfl ?_
       refine on ?_
       obtain rfl := Option.some.inj hr78
       intro a w hS hA
       exact ⟨hS, hA.cut ⟨rfl, trivial⟩⟩
      ·have hr79 := if_n hb77 hx75
       refine gF rfl rfl (decide_eq_false hb77) rfl ?_
       refine gF rfl rfl (decide_eq_false hb77) rfl ?_
       refine gF rfl rfl (decide_eq_false hb77) rfl ?_
       refine gF rfl rfl (decide_eq_false hb77) rfl ?_
       refine pF rfl rfl (decide_eq_false hb77) rfl ?_
       refine av rfl rfl ?_
       refine on ?_
       obtain rfl := Option.some.inj hr79
       intro a w hS hA
       exact ⟨hS, hA.cut ⟨rfl, trivial⟩⟩
     ·rintro a w ⟨hS, hA⟩
      refine TG.ap ?_ hS hA
      refine rt_ ?_
      obtain rfl := Option.some.inj hr76
      intro a w hS hA
      refine ret1 hA rfl rfl ?_
      exact ⟨rfl, hS.ext⟩

theorem w36 {W : World} {H : Hp} (hH : H.le (hp W)) {cs_r_0 : List Value} (r_0 : Report) (h_r_0 : (RReport) H cs_r_0 r_0) {r : Int} (hr : m36 r_0 = some r) : Calls Tryz.prog 36 [.agg cs_r_0.toArray].toArray W (RetS W (.int .i64 r)) := by
 have hh_r_0 := h_r_0
 obtain ⟨ad1, cap2, rfl, hl3⟩ := h_r_0
 have := hl3.len
 unfold m36 at hr
 refine enterG Tryz.func36 rfl Tryz.ntmps36 rfl hH ?_
 refine sq ?_
 refine rg ?_
 refine bI (cs := [.slice ad1 r_0.words.length cap2, .int .i64 r_0.out, .int .i64 r_0.within]) rfl rfl rfl fun q4 K5 hK6 => ?_
 refine av rfl rfl ?_
 refine on ?_
 refine sq ?_
 refine rg ?_
 refine ldA Tryz.isAgg56 Tryz.sizeOf56 rfl rfl (sS 0 rfl hK6) rfl ?_
 obtain ⟨r7, hx8, hr9⟩ := bd_some hr
 refine clS Tryz.call61 rfl rfl rfl rfl (fun w H hH le => w61 hH r_0 (RReport.mono _ _ _ _ (le.at 1 rfl) hh_r_0) hx8) ?_
 refine av rfl rfl ?_
 refine on ?_
 refine rt_ ?_
 obtain rfl := Option.some.inj hr9
 intro a w hS hA
 refine ret1 hA rfl rfl ?_
 exact ⟨rfl, hS.ext⟩

theorem w62 {W : World} {H : Hp} (hH : H.le (hp W)) {ad_l_0 : Option Addr} {cap_l_0 : Nat} {l_0 : List Request} (h_l_0 : Sl (RRequest) 5 H ad_l_0 cap_l_0 l_0) (i_1 : Int) (k_2 : Int) {r : Bool} (hr : m62 l_0 i_1 k_2 = some r) : Calls Tryz.prog 62 [.slice ad_l_0 l_0.length cap_l_0, .int .i64 i_1, .int .i64 k_2].toArray W (RetS W (.bool r)) := by
 have := h_l_0.len
 unfold m62 at hr
 refine enterG Tryz.func62 rfl Tryz.ntmps62 rfl hH ?_
 refine sq ?_
 refine rg ?_
 refine av rfl rfl ?_
 refine on ?_
 refine sq ?_
 refine sq ?_
 obtain ⟨hk1, hr2⟩ := chk_some hr
 obtain ⟨x3, hx4, hr5⟩ := bd_some hr2
 obtain ⟨p6, rfl⟩ := h_l_0.adr hx4
 obtain ⟨cs7, hcs8, hq9, hr10⟩ := h_l_0.at hx4
 have hr11 := hr10
 obtain ⟨ad12, cap13, rfl, hl14⟩ := hr10
 have := hl14.len
 obtain ⟨hk15, hr16⟩ := chk_some hr5
 obtain ⟨x17, hx18, hr19⟩ := bd_some hr16
 obtain ⟨cs20, hcs21, hq22, hr23⟩ := h_l_0.at hx18
 have hr24 := hr23
 obtain ⟨ad25, cap26, rfl, hl27⟩ := hr23
 have := hl27.len
 refine drG 10 T4.mixed (by kernel_rfl) rfl ?_
 refine DF.det rfl (fun a w K hS hA hF => TG.pa hS hA (mv rfl rfl fin1)) ?_
 refine DF.det rfl (fun a w K hS hA hF => TG.pa hS hA (mv rfl rfl fin1)) ?_
 refine DF.det rfl (fun a w K hS hA hF => TG.pa hS hA (iaP Tryz.underlying69 Tryz.sizeOf73 rfl rfl rfl (by omega) (lt_of hx4) fin1)) ?_
 refine DF.det rfl (fun a w K hS hA hF => TG.pa hS hA (fb 1 Tryz.underlying73 rfl rfl rfl rfl Tryz.sizeOf3 fin1)) ?_
 refine DF.det rfl (fun a w K hS hA hF => TG.pa hS hA (ld Tryz.isAgg3 rfl rfl (((sS 1 rfl hq9).drop 1).take 1) rfl fin1)) ?_
 refine DF.det rfl (fun a w K hS hA hF => TG.pa hS hA (mv rfl rfl fin1)) ?_
 refine DF.det rfl (fun a w K hS hA hF => TG.pa hS hA (mv rfl rfl fin1)) ?_
 refine DF.det rfl (fun a w K hS hA hF => TG.pa hS hA (iaP Tryz.underlying69 Tryz.sizeOf73 rfl rfl rfl (by omega) (lt_of hx18) fin1)) ?_
 refine DF.det rfl (fun a w K hS hA hF => TG.pa hS hA (fb 1 Tryz.underlying73 rfl rfl rfl rfl Tryz.sizeOf3 fin1)) ?_
 refine DF.det rfl (fun a w K hS hA hF => TG.pa hS hA (ld Tryz.isAgg3 rfl rfl (((sS 1 rfl hq22).drop 1).take 1) rfl fin1)) ?_
 refine DF.nil fun K28 hF => ?_
 refine neI rfl rfl rfl ?_
 refine on ?_
 refine ci rfl (fun hc33 => ?_) (fun hc33 => ?_)
 ·have hr34 := if_p hc33 hr19
  refine sq ?_
  refine drG 10 T4.mixed (by kernel_rfl) rfl ?_
  refine DF.det rfl (fun a w K hS hA hF => TG.pa hS hA (mv rfl rfl fin1)) ?_
  refine DF.det rfl (fun a w K hS hA hF => TG.pa hS hA (mv rfl rfl fin1)) ?_
  refine DF.det rfl (fun a w K hS hA hF => TG.pa hS hA (iaP Tryz.underlying69 Tryz.sizeOf73 rfl rfl rfl (by omega) (lt_of hx4) fin1)) ?_
  refine DF.det rfl (fun a w K hS hA hF => TG.pa hS hA (fb 1 Tryz.underlying73 rfl rfl rfl rfl Tryz.sizeOf3 fin1)) ?_
  refine DF.det rfl (fun a w K hS hA hF => TG.pa hS hA (ld Tryz.isAgg3 rfl rfl (((sS 2 rfl hq9).drop 1).take 1) rfl fin1)) ?_
  refine DF.det rfl (fun a w K hS hA hF => TG.pa hS hA (mv rfl rfl fin1)) ?_
  refine DF.det rfl (fun a w K hS hA hF => TG.pa hS hA (mv rfl rfl fin1)) ?_
  refine DF.det rfl (fun a w K hS hA hF => TG.pa hS hA (iaP Tryz.underlying69 Tryz.sizeOf73 rfl rfl rfl (by omega) (lt_of hx18) fin1)) ?_
  refine DF.det rfl (fun a w K hS hA hF => TG.pa hS hA (fb 1 Tryz.underlying73 rfl rfl rfl rfl Tryz.sizeOf3 fin1)) ?_
  refine DF.det rfl (fun a w K hS hA hF => TG.pa hS hA (ld Tryz.isAgg3 rfl rfl (((sS 2 rfl hq22).drop 1).take 1) rfl fin1)) ?_
  refine DF.nil fun K35 hF => ?_
  refine ltI rfl rfl rfl ?_
  refine av rfl rfl ?_
  refine on ?_
  refine rt_ ?_
  obtain rfl := Option.some.inj hr34
  intro a w hS hA
  refine ret1 hA rfl rfl ?_
  exact ⟨rfl, hS.ext⟩
 ·have hr36 := if_n hc33 hr19
  refine sk ?_
  refine sq ?_
  refine sq ?_
  refine drG 10 T4.mixed (by kernel_rfl) rfl ?_
  refine DF.det rfl (fun a w K hS hA hF => TG.pa hS hA (mv rfl rfl fin1)) ?_
  refine DF.det rfl (fun a w K hS hA hF => TG.pa hS hA (mv rfl rfl fin1)) ?_
  refine DF.det rfl (fun a w K hS hA hF => TG.pa hS hA (iaP Tryz.underlying69 Tryz.sizeOf73 rfl rfl rfl (by omega) (lt_of hx4) fin1)) ?_
  refine DF.det rfl (fun a w K hS hA hF => TG.pa hS hA (fb 0 Tryz.underlying73 rfl rfl rfl rfl Tryz.sizeOf3 fin1)) ?_
  refine DF.det rfl (fun a w K hS hA hF => TG.pa hS hA (ld Tryz.isAgg3 rfl rfl ((sS 2 rfl hq9).take 1) rfl fin1)) ?_
  refine DF.det rfl (fun a w K hS hA hF => TG.pa hS hA (mv rfl rfl fin1)) ?_
  refine DF.det rfl (fun a w K hS hA hF => TG.pa hS hA (mv rfl rfl fin1)) ?_
  refine DF.det rfl (fun a w K hS hA hF => TG.pa hS hA (iaP Tryz.underlying69 Tryz.sizeOf73 rfl rfl rfl (by omega) (lt_of hx18) fin1)) ?_
  refine DF.det rfl (fun a w K hS hA hF => TG.pa hS hA (fb 0 Tryz.underlying73 rfl rfl rfl rfl Tryz.sizeOf3 fin1)) ?_
  refine DF.det rfl (fun a w K hS hA hF => TG.pa hS hA (ld Tryz.isAgg3 rfl rfl ((sS 2 rfl hq22).take 1) rfl fin1)) ?_
  refine DF.nil fun K37 hF => ?_
  refine neI rfl rfl rfl ?_
  refine on ?_
  refine ci rfl (fun hc42 => ?_) (fun hc42 => ?_)
  ·have hr43 := if_p hc42 hr36
   refine sq ?_
   refine drG 10 T4.mixed (by kernel_rfl) rfl ?_
   refine DF.det rfl (fun a w K hS hA hF => TG.pa hS hA (mv rfl rfl fin1)) ?_
   refine DF.det rfl (fun a w K hS hA hF => TG.pa hS hA (mv rfl rfl fin1)) ?_
   refine DF.det rfl (fun a w K hS hA hF => TG.pa hS hA (iaP Tryz.underlying69 Tryz.sizeOf73 rfl rfl rfl (by omega) (lt_of hx4) fin1)) ?_
   refine DF.det rfl (fun a w K hS hA hF => TG.pa hS hA (fb 0 Tryz.underlying73 rfl rfl rfl rfl Tryz.sizeOf3 fin1)) ?_
   refine DF.det rfl (fun a w K hS hA hF => TG.pa hS hA (ld Tryz.isAgg3 rfl rfl ((sS 3 rfl hq9).take 1) rfl fin1)) ?_
   refine DF.det rfl (fun a w K hS hA hF => TG.pa hS hA (mv rfl rfl fin1)) ?_
   refine DF.det rfl (fun a w K hS hA hF => TG.pa hS hA (mv rfl rfl fin1)) ?_
   refine DF.det rfl (fun a w K hS hA hF => TG.pa hS hA (iaP Tryz.underlying69 Tryz.sizeOf73 rfl rfl rfl (by omega) (lt_of hx18) fin1)) ?_
   refine DF.det rfl (fun a w K hS hA hF => TG.pa hS hA (fb 0 Tryz.underlying73 rfl rfl rfl rfl Tryz.sizeOf3 fin1)) ?_
   refine DF.det rfl (fun a w K hS hA hF => TG.pa hS hA (ld Tryz.isAgg3 rfl rfl ((sS 3 rfl hq22).take 1) rfl fin1)) ?_
   refine DF.nil fun K44 hF => ?_
   refine ltI rfl rfl rfl ?_
   refine av rfl rfl ?_
   refine on ?_
   refine rt_ ?_
   obtain rfl := Option.some.inj hr43
   intro a w hS hA
   refine ret1 hA rfl rfl ?_
   exact ⟨rfl, hS.ext⟩
  ·have hr45 := if_n hc42 hr36
   refine sk ?_
   refine sq ?_
   refine rg ?_
   refine mv rfl rfl ?_
   refine mv rfl rfl ?_
   refine ltI rfl rfl rfl ?_
   refine av rfl rfl ?_
   refine on ?_
   refine rt_ ?_
   obtain rfl := Option.some.inj hr45
   intro a w hS hA
   refine ret1 hA rfl rfl ?_
   exact ⟨rfl, hS.ext⟩

theorem w93 {W : World} {H : Hp} (hH : H.le (hp W)) {cs_r_0 : List Value} (r_0 : Report) (h_r_0 : (RReport) H cs_r_0 r_0) (at_1 : Int) (member : Int) {r : Bool} (hr : m93 r_0 at_1 member = some r) : Calls Tryz.prog 93 [.agg cs_r_0.toArray, .int .i64 at_1, .int .i64 member].toArray W (RetS W (.bool r)) := by
 have hh_r_0 := h_r_0
 obtain ⟨ad1, cap2, rfl, hl3⟩ := h_r_0
 have := hl3.len
 unfold m93 at hr
 refine enterG Tryz.func93 rfl Tryz.ntmps93 rfl hH ?_
 refine sq ?_
 refine rg ?_
 refine bI (cs := [.slice ad1 r_0.words.length cap2, .int .i64 r_0.out, .int .i64 r_0.within]) rfl rfl rfl fun q4 K5 hK6 => ?_
 refine av rfl rfl ?_
 refine on ?_
 refine sq ?_
 obtain ⟨t23, hx24, hr25⟩ := bd_some hr
 refine jn (fun a w => St [] W H [K5, H] [] w ∧ Has [] 23 a [(6, .bool t23)]) ?_ ?_
 ·refine rg ?_
  refine mv rfl rfl ?_
  refine fb 0 Tryz.underlying68 rfl rfl rfl rfl Tryz.sizeOf66 ?_
  refine ld Tryz.isAgg66 rfl rfl ((sS 0 rfl hK6).take 1) rfl ?_
  refine lnL Tryz.underlying66 rfl rfl ?_
  refine sbI rfl rfl rfl (by omega) ?_
  obtain ⟨r26, hx27, hr28⟩ := bd_some hx24
  refine clS Tryz.call28 rfl rfl rfl rfl (fun w H hH le => w28 at_1 0 ((r_0.words.length : Int) - 1) hx27) ?_
  refine mv rfl rfl ?_
  rcases Bool.eq_false_or_eq_true (r26) with hb29 | hb29
  ·have hr30 := if_p hb29 hr28
   refine gN rfl rfl (hb29) ?_
   refine fb 0 Tryz.underlying68 rfl rfl rfl rfl Tryz.sizeOf66 ?_
   refine gN rfl rfl (hb29) ?_
   refine ld Tryz.isAgg66 rfl rfl ((sS 0 rfl hK6).take 1) rfl ?_
   refine gN rfl rfl (hb29) ?_
   refine mv rfl rfl ?_
   refine gN rfl rfl (hb29) ?_
   obtain ⟨hk31, hr32⟩ := chk_some hr30
   obtain ⟨x33, hx34, hr35⟩ := bd_some hr32
   obtain ⟨p36, rfl⟩ := hl3.adr hx34
   obtain ⟨cs37, hcs38, hq39, hr40⟩ := hl3.at hx34
   obtain rfl := hr40
   refine iaP Tryz.underlying66 Tryz.sizeOf74 rfl rfl rfl (by omega) (lt_of hx34) ?_
   refine gN rfl rfl (hb29) ?_
   refine fb 1 Tryz.underlying74 rfl rfl rfl rfl Tryz.sizeOf3 ?_
   refine gN rfl rfl (hb29) ?_
   refine ld Tryz.isAgg3 rfl rfl ((sS 1 rfl hq39).drop 1) rfl ?_
   refine gN rfl rfl (hb29) ?_
   refine mv rfl rfl ?_
   refine gN rfl rfl (hb29) ?_
   refine eqI rfl rfl rfl ?_
   refine pT rfl rfl (hb29) rfl ?_
   refine av rfl rfl ?_
   refine on ?_
   obtain rfl := Option.some.inj hr35
   intro a w hS hA
   exact ⟨hS, hA.cut ⟨rfl, trivial⟩⟩
  ·have hr41 := if_f hb29 hr28
   refine gF rfl rfl (hb29) rfl ?_
   refine gF rfl rfl (hb29) rfl ?_
   refine gF rfl rfl (hb29) rfl ?_
   refine gF rfl rfl (hb29) rfl ?_
   refine gF rfl rfl (hb29) rfl ?_
   refine gF rfl rfl (hb29) rfl ?_
   refine gF rfl rfl (hb29) rfl ?_
   refine gF rfl rfl (hb29) rfl ?_
   refine pF rfl rfl (hb29) rfl ?_
   refine av rfl rfl ?_
   refine on ?_
   obtain rfl := Option.some.inj hr41
   intro a w hS hA
   exact ⟨hS, hA.cut ⟨rfl, trivial⟩⟩
 ·rintro a w ⟨hS, hA⟩
  refine TG.ap ?_ hS hA
  refine rt_ ?_
  obtain rfl := Option.some.inj hr25
  intro a w hS hA
  refine ret1 hA rfl rfl ?_
  exact ⟨rfl, hS.ext⟩

theorem w47 {W : World} {H : Hp} (hH : H.le (hp W)) {cs_r_0 : List Value} (r_0 : Report) (h_r_0 : (RReport) H cs_r_0 r_0) (from_1 : Int) (to_2 : Int) {r : List Bytes} (hr : m47 r_0 from_1 to_2 = some r) : Calls Tryz.prog 47 [.agg cs_r_0.toArray, .int .i64 from_1, .int .i64 to_2].toArray W (RetK H W (fun v K => ∃ (ad0 : Option Addr) (cap0 : Nat), v = .slice ad0 r.length cap0 ∧ Sl (Flat encS) 1 K ad0 cap0 r)) := by
 have hh_r_0 := h_r_0
 obtain ⟨ad1, cap2, rfl, hl3⟩ := h_r_0
 have := hl3.len
 unfold m47 at hr
 refine enterG Tryz.func47 rfl Tryz.ntmps47 rfl hH ?_
 refine sq ?_
 refine rg ?_
 refine bI (cs := [.slice ad1 r_0.words.length cap2, .int .i64 r_0.out, .int .i64 r_0.within]) rfl rfl rfl fun q4 K5 hK6 => ?_
 refine av rfl rfl ?_
 refine on ?_
 refine sq ?_
 refine rg ?_
 refine av rfl rfl ?_
 refine on ?_
 refine sq ?_
 refine sq ?_
 refine rg ?_
 refine mv rfl rfl ?_
 refine av rfl rfl ?_
 refine on ?_
 refine TG.nilRow 2 9 1 ?_
 refine TG.as 2 (z := Own.list none 0 9 1 encS ([] : List Bytes)) rfl rfl ?_
 obtain ⟨e76, hl77, hr78⟩ := bd_some hr
 refine jn (fun a w => ∃ (ad79 : Option Addr) (cap80 : Nat), St [] W H [K5, H] [(2, Own.list ad79 cap80 9 1 encS e76)] w ∧ Has [] 25 a [(7, .slice ad79 e76.length cap80)]) ?_ ?_
 ·refine bk ?_
  refine lp hl77 (fun s81 a w => ∃ (ad82 : Option Addr) (cap83 : Nat), St [] W H [K5, H] [(2, Own.list ad82 cap83 9 1 encS s81.2)] w ∧ Has [] 25 a [(2, .int .i64 to_2), (3, .pointer (some q4)), (7, .slice ad82 s81.2.length cap83), (8, .int .i64 s81.1)]) ?_ ?_
  ·intro a w hS hA
   exact ⟨none, 0, hS, hA.cut ⟨rfl, rfl, rfl, rfl, trivial⟩⟩
  ·rintro j s81 y86 hr84 hz85 a w ⟨ad82, cap83, hS, hA⟩
   refine TG.ap ?_ hS hA
   unfold m47_1 at hr84
   refine sq ?_
   refine sq ?_
   refine rg ?_
   refine mv rfl rfl ?_
   refine mv rfl rfl ?_
   refine ltI rfl rfl rfl ?_
   refine on ?_
   refine ci rfl (fun hc90 => ?_) (fun hc90 => ?_)
   ·have hr91 := if_p hc90 hr84
    refine sk ?_
    refine sq ?_
    refine bk ?_
    refine rg ?_
    refine mv rfl rfl ?_
    refine fb 0 Tryz.underlying68 rfl rfl rfl rfl Tryz.sizeOf66 ?_
    refine ld Tryz.isAgg66 rfl rfl ((sS 0 rfl hK6).take 1) rfl ?_
    refine mv rfl rfl ?_
    obtain ⟨hk107, hr108⟩ := chk_some hr91
    obtain ⟨x109, hx110, hr111⟩ := bd_some hr108
    obtain ⟨p112, rfl⟩ := hl3.adr hx110
    obtain ⟨cs113, hcs114, hq115, hr116⟩ := hl3.at hx110
    obtain rfl := hr116
    refine iaP Tryz.underlying66 Tryz.sizeOf74 rfl rfl rfl (by omega) (lt_of hx110) ?_
    refine fb 0 Tryz.underlying74 rfl rfl rfl rfl Tryz.sizeOf9 ?_
    refine ld Tryz.isAgg9 rfl rfl ((sS 1 rfl hq115).take 1) rfl ?_
    obtain ⟨hk117, hr118⟩ := chk_some hr111
    have := lenA s81.2 [x109.text]
    refine ap1 2 encS (l := s81.2) x109.text T4.E24 rfl rfl rfl rfl rfl rfl rfl rfl rfl rfl rfl rfl hk117 fun ad119 cap120 u121 => ?_
    refine av rfl rfl ?_
    refine on ?_
    refine rg ?_
    refine mv rfl rfl ?_
    obtain ⟨hk122, hr123⟩ := chk_some hr118
    refine adI rfl rfl rfl hk122 ?_
    refine av rfl rfl ?_
    refine on ?_
    obtain rfl := Option.some.inj hr123
    intro a w hS hA
    exact ⟨_, hz85, ad119, cap120, hS, hA.cut ⟨rfl, rfl, rfl, rfl, trivial⟩⟩
   ·have hr124 := if_n hc90 hr84
    refine xt rfl ?_
    obtain rfl := Option.some.inj hr124
    obtain rfl := Fin.out hz85
    intro a w hS hA
    exact ⟨ad82, cap83, hS, hA.cut ⟨rfl, trivial⟩⟩
 ·rintro a w ⟨ad79, cap80, hS, hA⟩
  refine TG.ap ?_ hS hA
  refine sq ?_
  refine rg ?_
  refine mv rfl rfl ?_
  refine av rfl rfl ?_
  refine on ?_
  refine rt_ ?_
  obtain rfl := Option.some.inj hr78
  intro a w hS hA
  refine ret1 hA rfl rfl ?_
  exact ⟨⟨_, _, rfl, (hS.listOut 2 rfl (fun _ => rfl))⟩, hS.ext⟩

theorem w94 {W : World} {H : Hp} (hH : H.le (hp W)) {ad_swaps : Option Addr} {cap_swaps : Nat} {swaps : List Swap} (h_swaps : Sl (Flat encSwap) 3 H ad_swaps cap_swaps swaps) {ad_a_1 : Option Addr} {cap_a_1 : Nat} {a_1 : List Mark} (h_a_1 : Sl (Flat encMark) 2 H ad_a_1 cap_a_1 a_1) {ad_b_2 : Option Addr} {cap_b_2 : Nat} {b_2 : List Mark} (h_b_2 : Sl (Flat encMark) 2 H ad_b_2 cap_b_2 b_2) {r : Bool} (hr : m94 swaps a_1 b_2 = some r) : Calls Tryz.prog 94 [.slice ad_swaps swaps.length cap_swaps, .slice ad_a_1 a_1.length cap_a_1, .slice ad_b_2 b_2.length cap_b_2].toArray W (RetS W (.bool r)) := by
 have := h_swaps.len
 have := h_a_1.len
 have := h_b_2.len
 unfold m94 at hr
 refine enterG Tryz.func94 rfl Tryz.ntmps94 rfl hH ?_
 refine sq ?_
 refine rg ?_
 refine av rfl rfl ?_
 refine on ?_
 refine sq ?_
 refine sq ?_
 refine rg ?_
 refine mv rfl rfl ?_
 refine lnL Tryz.underlying44 rfl rfl ?_
 refine mv rfl rfl ?_
 refine lnL Tryz.underlying44 rfl rfl ?_
 refine neI rfl rfl rfl ?_
 refine on ?_
 refine ci rfl (fun hc4 => ?_) (fun hc4 => ?_)
 ·have hr5 := if_p hc4 hr
  refine sq ?_
  refine rg ?_
  refine av rfl rfl ?_
  refine on ?_
  refine rt_ ?_
  obtain rfl := Option.some.inj hr5
  intro a w hS hA
  refine ret1 hA rfl rfl ?_
  exact ⟨rfl, hS.ext⟩
 ·have hr6 := if_n hc4 hr
  refine sk ?_
  refine sq ?_
  refine sq ?_
  refine rg ?_
  refine av rfl rfl ?_
  refine on ?_
  obtain ⟨e34, hl35, hr36⟩ := bd_some hr6
  refine jn (fun a w => ∃ t37, e34 = .inl t37 ∧ St [] W H [H] [] w ∧ Has [] 30 a []) ?_ ?_
  ·refine bk ?_
   refine lp hl35 (fun s38 a w => St [] W H [H] [] w ∧ Has [] 30 a [(0, .slice ad_swaps swaps.length cap_swaps), (1, .slice ad_a_1 a_1.length cap_a_1), (2, .slice ad_b_2 b_2.length cap_b_2), (7, .int .i64 (s38 : Int))]) ?_ ?_
   ·intro a w hS hA
    exact ⟨hS, hA.cut ⟨rfl, rfl, rfl, rfl, trivial⟩⟩
   ·rintro j s38 y41 hr39 hz40 a w ⟨hS, hA⟩
    refine TG.ap ?_ hS hA
    unfold m94_1 at hr39
    refine sq ?_
    refine sq ?_
    refine rg ?_
    refine mv rfl rfl ?_
    refine mv rfl rfl ?_
    refine lnL Tryz.underlying44 rfl rfl ?_
    refine ltI rfl rfl rfl ?_
    refine on ?_
    refine ci rfl (fun hc45 => ?_) (fun hc45 => ?_)
    ·have hr46 := if_p hc45 hr39
     refine sk ?_
     refine sq ?_
     refine bk ?_
     refine sq ?_
     obtain ⟨x70, hx71, hr72⟩ := bd_some hr46
     obtain ⟨p73, rfl⟩ := h_a_1.adr hx71
     obtain ⟨cs74, hcs75, hq76, hr77⟩ := h_a_1.at hx71
     obtain rfl := hr77
     obtain ⟨x78, hx79, hr80⟩ := bd_some hr72
     obtain ⟨p81, rfl⟩ := h_b_2.adr hx79
     obtain ⟨cs82, hcs83, hq84, hr85⟩ := h_b_2.at hx79
     obtain rfl := hr85
     refine drG 9 T4.mixed (by kernel_rfl) rfl ?_
     refine DF.det rfl (fun a w K hS hA hF => TG.pa hS hA (mv rfl rfl fin1)) ?_
     refine DF.det rfl (fun a w K hS hA hF => TG.pa hS hA (mv rfl rfl fin1)) ?_
     refine DF.det rfl (fun a w K hS hA hF => TG.pa hS hA (mv rfl rfl fin1)) ?_
     refine DF.det rfl (fun a w K hS hA hF => TG.pa hS hA (iaP Tryz.underlying44 Tryz.sizeOf113 rfl rfl rfl rfl (lt_of hx71) fin1)) ?_
     refine DF.det rfl (fun a w K hS hA hF => TG.pa hS hA (ldA Tryz.isAgg113 Tryz.sizeOf113 rfl rfl (sS 1 rfl hq76) rfl fin1)) ?_
     refine DF.det rfl (fun a w K hS hA hF => TG.pa hS hA (mv rfl rfl fin1)) ?_
     refine DF.det rfl (fun a w K hS hA hF => TG.pa hS hA (mv rfl rfl fin1)) ?_
     refine DF.det rfl (fun a w K hS hA hF => TG.pa hS hA (iaP Tryz.underlying44 Tryz.sizeOf113 rfl rfl rfl rfl (lt_of hx79) fin1)) ?_
     refine DF.det rfl (fun a w K hS hA hF => TG.pa hS hA (ldA Tryz.isAgg113 Tryz.sizeOf113 rfl rfl (sS 1 rfl hq84) rfl fin1)) ?_
     refine DF.nil fun K86 hF => ?_
     obtain ⟨r87, hx88, hr89⟩ := bd_some hr80
     refine clS Tryz.call56 rfl rfl rfl rfl (fun w H hH le => w56 hH (h_swaps.mono (Flat.mono _) (le.at 1 rfl)) x70 rfl x78 rfl hx88) ?_
     refine nt rfl rfl ?_
     refine on ?_
     refine cb rfl (fun hc93 => ?_) (fun hc93 => ?_)
     ·replace hc93 := nbt hc93
      have hr94 := if_f hc93 hr89
      refine sq ?_
      refine rg ?_
      refine av rfl rfl ?_
      refine on ?_
      refine rt_ ?_
      obtain rfl := Option.some.inj hr94
      obtain rfl := Fin.out hz40
      obtain rfl := Option.some.inj hr36
      intro a w hS hA
      refine ret1 hA rfl rfl ?_
      exact ⟨rfl, hS.ext⟩
     ·replace hc93 := nbf hc93
      have hr95 := if_p hc93 hr89
      refine sk ?_
      refine rg ?_
      refine mv rfl rfl ?_
      refine adI rfl rfl rfl (by omega) ?_
      refine av rfl rfl ?_
      refine on ?_
      obtain rfl := Option.some.inj hr95
      intro a w hS hA
      exact ⟨_, hz40, hS.selH [1] rfl, hA.cut ⟨rfl, rfl, rfl, rfl, trivial⟩⟩
    ·have hr96 := if_n hc45 hr39
     refine xt rfl ?_
     obtain rfl := Option.some.inj hr96
     obtain rfl := Fin.out hz40
     intro a w hS hA
     exact ⟨_, rfl, hS, hA.cut trivial⟩
  ·rintro a w ⟨t37, rfl, hS, hA⟩
   refine TG.ap ?_ hS hA
   refine sq ?_
   refine rg ?_
   refine av rfl rfl ?_
   refine on ?_
   refine rt_ ?_
   obtain rfl := Option.some.inj hr36
   intro a w hS hA
   refine ret1 hA rfl rfl ?_
   exact ⟨rfl, hS.ext⟩

theorem w63 {W : World} {H : Hp} (hH : H.le (hp W)) {cs_l_0 : List Value} (l_0 : Lexicon) (h_l_0 : (RLexicon) H cs_l_0 l_0) {ad_swaps : Option Addr} {cap_swaps : Nat} {swaps : List Swap} (h_swaps : Sl (Flat encSwap) 3 H ad_swaps cap_swaps swaps) {cs_r_2 : List Value} (r_2 : Report) (h_r_2 : (RReport) H cs_r_2 r_2) {cs_q_3 : List Value} (q_3 : Request) (h_q_3 : (RRequest) H cs_q_3 q_3) {r : Int} (hr : m63 l_0 swaps r_2 q_3 = some r) : Calls Tryz.prog 63 [.agg cs_l_0.toArray, .slice ad_swaps swaps.length cap_swaps, .agg cs_r_2.toArray, .agg cs_q_3.toArray].toArray W (RetS W (.int .i64 r)) := by
 have hh_l_0 := h_l_0
 obtain ⟨ad1, cap2, ad4, cap5, ad7, cap8, rfl, hl3, hl6, hl9⟩ := h_l_0
 have := hl3.len
 have := hl6.len
 have := hl9.len
 have := h_swaps.len
 have hh_r_2 := h_r_2
 obtain ⟨ad10, cap11, rfl, hl12⟩ := h_r_2
 have := hl12.len
 have hh_q_3 := h_q_3
 obtain ⟨ad13, cap14, rfl, hl15⟩ := h_q_3
 have := hl15.len
 unfold m63 at hr
 refine enterG Tryz.func63 rfl Tryz.ntmps63 rfl hH ?_
 refine sq ?_
 refine rg ?_
 refine bI (cs := [.slice ad1 l_0.numbers.length cap2, .slice ad4 l_0.names.length cap5, .slice ad7 l_0.nots.length cap8]) rfl rfl rfl fun q16 K17 hK18 => ?_
 refine bI (cs := [.slice ad10 r_2.words.length cap11, .int .i64 r_2.out, .int .i64 r_2.within]) rfl rfl rfl fun q19 K20 hK21 => ?_
 refine bI (cs := [.int .i64 q_3.by_, .int .i64 q_3.minute, .int .i64 q_3.from_, .int .i64 q_3.cut, .slice ad13 q_3.put_.length cap14]) rfl rfl rfl fun q22 K23 hK24 => ?_
 refine av rfl rfl ?_
 refine on ?_
 refine sq ?_
 refine sq ?_
 obtain ⟨t33, hx34, hr35⟩ := bd_some hr
 refine jn (fun a w => St [] W H [K23, K20, K17, H] [] w ∧ Has [] 127 a [(1, .slice ad_swaps swaps.length cap_swaps), (4, .pointer (some q16)), (6, .pointer (some q19)), (7, .pointer (some q22)), (28, .bool t33)]) ?_ ?_
 ·refine rg ?_
  refine fb 2 Tryz.underlying73 rfl rfl rfl rfl Tryz.sizeOf3 ?_
  refine ld Tryz.isAgg3 rfl rfl (((sS 0 rfl hK24).drop 2).take 1) rfl ?_
  refine ltI rfl rfl rfl ?_
  refine mv rfl rfl ?_
  by_cases hb36 : q_3.from_ < 0
  ·have hr37 := if_p hb36 hx34
   refine gF rfl rfl (decide_eq_true hb36) rfl ?_
   refine gF rfl rfl (decide_eq_true hb36) rfl ?_
   refine gF rfl rfl (decide_eq_true hb36) rfl ?_
   refine pT rfl rfl (decide_eq_true hb36) rfl ?_
   refine mv rfl rfl ?_
   refine gF rfl rfl rfl rfl ?_
   refine gF rfl rfl rfl rfl ?_
   refine gF rfl rfl rfl rfl ?_
   refine gF rfl rfl rfl rfl ?_
   refine gF rfl rfl rfl rfl ?_
   refine gF rfl rfl rfl rfl ?_
   refine gF rfl rfl rfl rfl ?_
   refine gF rfl rfl rfl rfl ?_
   refine gF rfl rfl rfl rfl ?_
   refine pT rfl rfl rfl rfl ?_
   refine on ?_
   obtain rfl := Option.some.inj hr37
   intro a w hS hA
   exact ⟨hS, hA.cut ⟨rfl, rfl, rfl, rfl, rfl, trivial⟩⟩
  ·have hr38 := if_n hb36 hx34
   refine gN rfl rfl (decide_eq_false hb36) ?_
   refine fb 3 Tryz.underlying73 rfl rfl rfl rfl Tryz.sizeOf3 ?_
   refine gN rfl rfl (decide_eq_false hb36) ?_
   refine ld Tryz.isAgg3 rfl rfl (((sS 0 rfl hK24).drop 3).take 1) rfl ?_
   refine gN rfl rfl (decide_eq_false hb36) ?_
   refine ltI rfl rfl rfl ?_
   refine pF rfl rfl (decide_eq_false hb36) rfl ?_
   refine mv rfl rfl ?_
   by_cases hb39 : q_3.cut < 0
   ·have hr40 := if_p hb39 hr38
    refine gF rfl rfl (decide_eq_true hb39) rfl ?_
    refine gF rfl rfl (decide_eq_true hb39) rfl ?_
    refine gF rfl rfl (decide_eq_true hb39) rfl ?_
    refine gF rfl rfl (decide_eq_true hb39) rfl ?_
    refine gF rfl rfl (decide_eq_true hb39) rfl ?_
    refine gF rfl rfl (decide_eq_true hb39) rfl ?_
    refine gF rfl rfl (decide_eq_true hb39) rfl ?_
    refine gF rfl rfl (decide_eq_true hb39) rfl ?_
    refine gF rfl rfl (decide_eq_true hb39) rfl ?_
    refine pT rfl rfl (decide_eq_true hb39) rfl ?_
    refine on ?_
    obtain rfl := Option.some.inj hr40
    intro a w hS hA
    exact ⟨hS, hA.cut ⟨rfl, rfl, rfl, rfl, rfl, trivial⟩⟩
   ·have hr41 := if_n hb39 hr38
    refine gN rfl rfl (decide_eq_false hb39) ?_
    refine fb 2 Tryz.underlying73 rfl rfl rfl rfl Tryz.sizeOf3 ?_
    refine gN rfl rfl (decide_eq_false hb39) ?_
    refine ld Tryz.isAgg3 rfl rfl (((sS 0 rfl hK24).drop 2).take 1) rfl ?_
    refine gN rfl rfl (decide_eq_false hb39) ?_
    refine fb 0 Tryz.underlying68 rfl rfl rfl rfl Tryz.sizeOf66 ?_
    refine gN rfl rfl (decide_eq_false hb39) ?_
    refine ld Tryz.isAgg66 rfl rfl ((sS 1 rfl hK21).take 1) rfl ?_
    refine gN rfl rfl (decide_eq_false hb39) ?_
    refine lnL Tryz.underlying66 rfl rfl ?_
    refine gN rfl rfl (decide_eq_false hb39) ?_
    refine fb 3 Tryz.underlying73 rfl rfl rfl rfl Tryz.sizeOf3 ?_
    refine gN rfl rfl (decide_eq_false hb39) ?_
    refine ld Tryz.isAgg3 rfl rfl (((sS 0 rfl hK24).drop 3).take 1) rfl ?_
    refine gN rfl rfl (decide_eq_false hb39) ?_
    obtain ⟨hk42, hr43⟩ := chk_some hr41
    refine sbI rfl rfl rfl hk42 ?_
    refine gN rfl rfl (decide_eq_false hb39) ?_
    refine gtI rfl rfl rfl ?_
    refine pF rfl rfl (decide_eq_false hb39) rfl ?_
    refine on ?_
    obtain rfl := Option.some.inj hr43
    intro a w hS hA
    exact ⟨hS, hA.cut ⟨rfl, rfl, rfl, rfl, rfl, trivial⟩⟩
 ·rintro a w ⟨hS, hA⟩
  refine TG.ap ?_ hS hA
  refine cb rfl (fun hc47 => ?_) (fun hc47 => ?_)
  ·have hr48 := if_p hc47 hr35
   refine sq ?_
   refine rg ?_
   refine av rfl rfl ?_
   refine on ?_
   refine rt_ ?_
   obtain rfl := Option.some.inj hr48
   intro a w hS hA
   refine ret1 hA rfl rfl ?_
   exact ⟨rfl, hS.ext⟩
  ·have hr49 := if_f hc47 hr35
   refine sk ?_
   refine sq ?_
   refine sq ?_
   obtain ⟨t71, hx72, hr73⟩ := bd_some hr49
   refine jn (fun a w => St [] W H [K23, K20, K17, H] [] w ∧ Has [] 127 a [(1, .slice ad_swaps swaps.length cap_swaps), (4, .pointer (some q16)), (6, .pointer (some q19)), (7, .pointer (some q22)), (54, .bool t71)]) ?_ ?_
   ·refine rg ?_
    refine fb 3 Tryz.underlying73 rfl rfl rfl rfl Tryz.sizeOf3 ?_
    refine ld Tryz.isAgg3 rfl rfl (((sS 0 rfl hK24).drop 3).take 1) rfl ?_
    refine gtI rfl rfl rfl ?_
    refine mv rfl rfl ?_
    by_cases hb74 : 8 < q_3.cut
    ·have hr75 := if_p hb74 hx72
     refine gF rfl rfl (decide_eq_true hb74) rfl ?_
     refine gF rfl rfl (decide_eq_true hb74) rfl ?_
     refine gF rfl rfl (decide_eq_true hb74) rfl ?_
     refine gF rfl rfl (decide_eq_true hb74) rfl ?_
     refine pT rfl rfl (decide_eq_true hb74) rfl ?_
     refine mv rfl rfl ?_
     refine gF rfl rfl rfl rfl ?_
     refine gF rfl rfl rfl rfl ?_
     refine gF rfl rfl rfl rfl ?_
     refine gF rfl rfl rfl rfl ?_
     refine gU rfl rfl rfl ?_
     refine gU rfl rfl rfl ?_
     refine gU rfl rfl rfl ?_
     refine gU rfl rfl rfl ?_
     refine gF rfl rfl rfl rfl ?_
     refine pT rfl rfl rfl rfl ?_
     refine mv rfl rfl ?_
     refine gF rfl rfl rfl rfl ?_
     refine gF rfl rfl rfl rfl ?_
     refine gF rfl rfl rfl rfl ?_
     refine gF rfl rfl rfl rfl ?_
     refine pT rfl rfl rfl rfl ?_
     refine on ?_
     obtain rfl := Option.some.inj hr75
     intro a w hS hA
     exact ⟨hS, hA.cut ⟨rfl, rfl, rfl, rfl, rfl, trivial⟩⟩
    ·have hr76 := if_n hb74 hx72
     refine gN rfl rfl (decide_eq_false hb74) ?_
     refine fb 4 Tryz.underlying73 rfl rfl rfl rfl Tryz.sizeOf24 ?_
     refine gN rfl rfl (decide_eq_false hb74) ?_
     refine ld Tryz.isAgg24 rfl rfl ((sS 0 rfl hK24).drop 4) rfl ?_
     refine gN rfl rfl (decide_eq_false hb74) ?_
     obtain ⟨r77, hx78, hr79⟩ := bd_some hr76
     refine clS Tryz.call55 rfl rfl rfl rfl (fun w H hH le => w55 hH (hl15.mono (Flat.mono _) (le.at 3 rfl)) 8 hx78) ?_
     refine gN rfl rfl (decide_eq_false hb74) ?_
     refine nt rfl rfl ?_
     refine pF rfl rfl (decide_eq_false hb74) rfl ?_
     refine mv rfl rfl ?_
     rcases Bool.eq_false_or_eq_true (r77) with hb80 | hb80
     ·have hr81 := if_p hb80 hr79
      refine gN rfl rfl (congrArg not (hb80)) ?_
      refine fb 3 Tryz.underlying73 rfl rfl rfl rfl Tryz.sizeOf3 ?_
      refine gN rfl rfl (congrArg not (hb80)) ?_
      refine ld Tryz.isAgg3 rfl rfl (((sS 0 rfl hK24).drop 3).take 1) rfl ?_
      refine gN rfl rfl (congrArg not (hb80)) ?_
      refine eqI rfl rfl rfl ?_
      refine gN rfl rfl (congrArg not (hb80)) ?_
      refine mv rfl rfl ?_
      by_cases hb82 : q_3.cut = 0
      ·have hr83 := if_p hb82 hr81
       refine gN rfl rfl (decide_eq_true hb82) ?_
       refine fb 4 Tryz.underlying73 rfl rfl rfl rfl Tryz.sizeOf24 ?_
       refine gN rfl rfl (decide_eq_true hb82) ?_
       refine ld Tryz.isAgg24 rfl rfl ((sS 0 rfl hK24).drop 4) rfl ?_
       refine gN rfl rfl (decide_eq_true hb82) ?_
       refine lnL Tryz.underlying24 rfl rfl ?_
       refine gN rfl rfl (decide_eq_true hb82) ?_
       refine eqI rfl rfl rfl ?_
       refine gN rfl rfl (congrArg not (hb80)) ?_
       refine pT rfl rfl (decide_eq_true hb82) rfl ?_
       refine pF rfl rfl (congrArg not (hb80)) rfl ?_
       refine mv rfl rfl ?_
       by_cases hb84 : (q_3.put_.length : Int) = 0
       ·have hr85 := if_p hb84 hr83
        refine gF rfl rfl (decide_eq_true hb84) rfl ?_
        refine gF rfl rfl (decide_eq_true hb84) rfl ?_
        refine gF rfl rfl (decide_eq_true hb84) rfl ?_
        refine gF rfl rfl (decide_eq_true hb84) rfl ?_
        refine pT rfl rfl (decide_eq_true hb84) rfl ?_
        refine on ?_
        obtain rfl := Option.some.inj hr85
        intro a w hS hA
        exact ⟨hS, hA.cut ⟨rfl, rfl, rfl, rfl, rfl, trivial⟩⟩
       ·have hr86 := if_n hb84 hr83
        refine gN rfl rfl (decide_eq_false hb84) ?_
        refine fb 0 Tryz.underlying73 rfl rfl rfl rfl Tryz.sizeOf3 ?_
        refine gN rfl rfl (decide_eq_false hb84) ?_
        refine ld Tryz.isAgg3 rfl rfl ((sS 0 rfl hK24).take 1) rfl ?_
        refine gN rfl rfl (decide_eq_false hb84) ?_
        obtain ⟨r87, hx88, hr89⟩ := bd_some hr86
        refine clS Tryz.call28 rfl rfl rfl rfl (fun w H hH le => w28 q_3.by_ 0 999 hx88) ?_
        refine gN rfl rfl (decide_eq_false hb84) ?_
        refine nt rfl rfl ?_
        refine pF rfl rfl (decide_eq_false hb84) rfl ?_
        refine on ?_
        obtain rfl := Option.some.inj hr89
        intro a w hS hA
        exact ⟨hS, hA.cut ⟨rfl, rfl, rfl, rfl, rfl, trivial⟩⟩
      ·have hr90 := if_n hb82 hr81
       refine gF rfl rfl (decide_eq_false hb82) rfl ?_
       refine gF rfl rfl (decide_eq_false hb82) rfl ?_
       refine gF rfl rfl (decide_eq_false hb82) rfl ?_
       refine gF rfl rfl (decide_eq_false hb82) rfl ?_
       refine gN rfl rfl (congrArg not (hb80)) ?_
       refine pF rfl rfl (decide_eq_false hb82) rfl ?_
       refine pF rfl rfl (congrArg not (hb80)) rfl ?_
       refine mv rfl rfl ?_
       refine gN rfl rfl rfl ?_
       refine fb 0 Tryz.underlying73 rfl rfl rfl rfl Tryz.sizeOf3 ?_
       refine gN rfl rfl rfl ?_
       refine ld Tryz.isAgg3 rfl rfl ((sS 0 rfl hK24).take 1) rfl ?_
       refine gN rfl rfl rfl ?_
       obtain ⟨r91, hx92, hr93⟩ := bd_some hr90
       refine clS Tryz.call28 rfl rfl rfl rfl (fun w H hH le => w28 q_3.by_ 0 999 hx92) ?_
       refine gN rfl rfl rfl ?_
       refine nt rfl rfl ?_
       refine pF rfl rfl rfl rfl ?_
       refine on ?_
       obtain rfl := Option.some.inj hr93
       intro a w hS hA
       exact ⟨hS, hA.cut ⟨rfl, rfl, rfl, rfl, rfl, trivial⟩⟩
     ·have hr94 := if_f hb80 hr79
      refine gF rfl rfl (congrArg not (hb80)) rfl ?_
      refine gF rfl rfl (congrArg not (hb80)) rfl ?_
      refine gF rfl rfl (congrArg not (hb80)) rfl ?_
      refine gF rfl rfl (congrArg not (hb80)) rfl ?_
      refine gU rfl rfl rfl ?_
      refine gU rfl rfl rfl ?_
      refine gU rfl rfl rfl ?_
      refine gU rfl rfl rfl ?_
      refine gF rfl rfl (congrArg not (hb80)) rfl ?_
      refine pT rfl rfl (congrArg not (hb80)) rfl ?_
      refine mv rfl rfl ?_
      refine gF rfl rfl rfl rfl ?_
      refine gF rfl rfl rfl rfl ?_
      refine gF rfl rfl rfl rfl ?_
      refine gF rfl rfl rfl rfl ?_
      refine pT rfl rfl rfl rfl ?_
      refine on ?_
      obtain rfl := Option.some.inj hr94
      intro a w hS hA
      exact ⟨hS, hA.cut ⟨rfl, rfl, rfl, rfl, rfl, trivial⟩⟩
   ·rintro a w ⟨hS, hA⟩
    refine TG.ap ?_ hS hA
    refine cb rfl (fun hc98 => ?_) (fun hc98 => ?_)
    ·have hr99 := if_p hc98 hr73
     refine sq ?_
     refine rg ?_
     refine av rfl rfl ?_
     refine on ?_
     refine rt_ ?_
     obtain rfl := Option.some.inj hr99
     intro a w hS hA
     refine ret1 hA rfl rfl ?_
     exact ⟨rfl, hS.ext⟩
    ·have hr100 := if_f hc98 hr73
     refine sk ?_
     refine sq ?_
     refine sq ?_
     obtain ⟨t115, hx116, hr117⟩ := bd_some hr100
     refine jn (fun a w => St [] W H [K23, K20, K17, H] [] w ∧ Has [] 127 a [(1, .slice ad_swaps swaps.length cap_swaps), (4, .pointer (some q16)), (6, .pointer (some q19)), (7, .pointer (some q22)), (76, .bool t115)]) ?_ ?_
     ·refine rg ?_
      refine fb 3 Tryz.underlying73 rfl rfl rfl rfl Tryz.sizeOf3 ?_
      refine ld Tryz.isAgg3 rfl rfl (((sS 0 rfl hK24).drop 3).take 1) rfl ?_
      refine eqI rfl rfl rfl ?_
      refine mv rfl rfl ?_
      by_cases hb118 : q_3.cut = 0
      ·have hr119 := if_p hb118 hx116
       refine gN rfl rfl (decide_eq_true hb118) ?_
       refine ldA Tryz.isAgg68 Tryz.sizeOf68 rfl rfl (sS 1 rfl hK21) rfl ?_
       refine gN rfl rfl (decide_eq_true hb118) ?_
       refine fb 2 Tryz.underlying73 rfl rfl rfl rfl Tryz.sizeOf3 ?_
       refine gN rfl rfl (decide_eq_true hb118) ?_
       refine ld Tryz.isAgg3 rfl rfl (((sS 0 rfl hK24).drop 2).take 1) rfl ?_
       refine gN rfl rfl (decide_eq_true hb118) ?_
       obtain ⟨hk120, hr121⟩ := chk_some hr119
       refine sbI rfl rfl rfl hk120 ?_
       refine gN rfl rfl (decide_eq_true hb118) ?_
       refine fb 0 Tryz.underlying73 rfl rfl rfl rfl Tryz.sizeOf3 ?_
       refine gN rfl rfl (decide_eq_true hb118) ?_
       refine ld Tryz.isAgg3 rfl rfl ((sS 0 rfl hK24).take 1) rfl ?_
       refine gN rfl rfl (decide_eq_true hb118) ?_
       obtain ⟨r122, hx123, hr124⟩ := bd_some hr121
       refine clS Tryz.call93 rfl rfl rfl rfl (fun w H hH le => w93 hH r_2 (RReport.mono _ _ _ _ (le.at 3 rfl) hh_r_2) (q_3.from_ - 1) q_3.by_ hx123) ?_
       refine gN rfl rfl (decide_eq_true hb118) ?_
       refine nt rfl rfl ?_
       refine pT rfl rfl (decide_eq_true hb118) rfl ?_
       refine mv rfl rfl ?_
       rcases Bool.eq_false_or_eq_true (r122) with hb125 | hb125
       ·have hr126 := if_p hb125 hr124
        refine gF rfl rfl (congrArg not (hb125)) rfl ?_
        refine gF rfl rfl (congrArg not (hb125)) rfl ?_
        refine gF rfl rfl (congrArg not (hb125)) rfl ?_
        refine gF rfl rfl (congrArg not (hb125)) rfl ?_
        refine gF rfl rfl (congrArg not (hb125)) rfl ?_
        refine gF rfl rfl (congrArg not (hb125)) rfl ?_
        refine gF rfl rfl (congrArg not (hb125)) rfl ?_
        refine pF rfl rfl (congrArg not (hb125)) rfl ?_
        refine on ?_
        obtain rfl := Option.some.inj hr126
        intro a w hS hA
        exact ⟨hS, hA.cut ⟨rfl, rfl, rfl, rfl, rfl, trivial⟩⟩
       ·have hr127 := if_f hb125 hr124
        refine gN rfl rfl (congrArg not (hb125)) ?_
        refine ldA Tryz.isAgg68 Tryz.sizeOf68 rfl rfl (sS 1 rfl hK21) rfl ?_
        refine gN rfl rfl (congrArg not (hb125)) ?_
        refine fb 2 Tryz.underlying73 rfl rfl rfl rfl Tryz.sizeOf3 ?_
        refine gN rfl rfl (congrArg not (hb125)) ?_
        refine ld Tryz.isAgg3 rfl rfl (((sS 0 rfl hK24).drop 2).take 1) rfl ?_
        refine gN rfl rfl (congrArg not (hb125)) ?_
        refine fb 0 Tryz.underlying73 rfl rfl rfl rfl Tryz.sizeOf3 ?_
        refine gN rfl rfl (congrArg not (hb125)) ?_
        refine ld Tryz.isAgg3 rfl rfl ((sS 0 rfl hK24).take 1) rfl ?_
        refine gN rfl rfl (congrArg not (hb125)) ?_
        obtain ⟨r128, hx129, hr130⟩ := bd_some hr127
        refine clS Tryz.call93 rfl rfl rfl rfl (fun w H hH le => w93 hH r_2 (RReport.mono _ _ _ _ (le.at 3 rfl) hh_r_2) q_3.from_ q_3.by_ hx129) ?_
        refine gN rfl rfl (congrArg not (hb125)) ?_
        refine nt rfl rfl ?_
        refine pT rfl rfl (congrArg not (hb125)) rfl ?_
        refine on ?_
        obtain rfl := Option.some.inj hr130
        intro a w hS hA
        exact ⟨hS, hA.cut ⟨rfl, rfl, rfl, rfl, rfl, trivial⟩⟩
      ·have hr131 := if_n hb118 hx116
       refine gF rfl rfl (decide_eq_false hb118) rfl ?_
       refine gF rfl rfl (decide_eq_false hb118) rfl ?_
       refine gF rfl rfl (decide_eq_false hb118) rfl ?_
       refine gF rfl rfl (decide_eq_false hb118) rfl ?_
       refine gF rfl rfl (decide_eq_false hb118) rfl ?_
       refine gF rfl rfl (decide_eq_false hb118) rfl ?_
       refine gF rfl rfl (decide_eq_false hb118) rfl ?_
       refine gF rfl rfl (decide_eq_false hb118) rfl ?_
       refine pF rfl rfl (decide_eq_false hb118) rfl ?_
       refine mv rfl rfl ?_
       refine gF rfl rfl rfl rfl ?_
       refine gF rfl rfl rfl rfl ?_
       refine gF rfl rfl rfl rfl ?_
       refine gF rfl rfl rfl rfl ?_
       refine gF rfl rfl rfl rfl ?_
       refine gF rfl rfl rfl rfl ?_
       refine gF rfl rfl rfl rfl ?_
       refine pF rfl rfl rfl rfl ?_
       refine on ?_
       obtain rfl := Option.some.inj hr131
       intro a w hS hA
       exact ⟨hS, hA.cut ⟨rfl, rfl, rfl, rfl, rfl, trivial⟩⟩
     ·rintro a w ⟨hS, hA⟩
      refine TG.ap ?_ hS hA
      refine cb rfl (fun hc135 => ?_) (fun hc135 => ?_)
      ·have hr136 := if_p hc135 hr117
       refine sq ?_
       refine rg ?_
       refine av rfl rfl ?_
       refine on ?_
       refine rt_ ?_
       obtain rfl := Option.some.inj hr136
       intro a w hS hA
       refine ret1 hA rfl rfl ?_
       exact ⟨rfl, hS.ext⟩
      ·have hr137 := if_f hc135 hr117
       refine sk ?_
       refine sq ?_
       refine sq ?_
       refine rg ?_
       refine fb 2 Tryz.underlying73 rfl rfl rfl rfl Tryz.sizeOf3 ?_
       refine ld Tryz.isAgg3 rfl rfl (((sS 0 rfl hK24).drop 2).take 1) rfl ?_
       refine av rfl rfl ?_
       refine on ?_
       obtain ⟨e152, hl153, hr154⟩ := bd_some hr137
       refine jn (fun a w => ∃ t155, e152 = .inl t155 ∧ St [] W H [K23, K20, K17, H] [] w ∧ Has [] 127 a [(1, .slice ad_swaps swaps.length cap_swaps), (4, .pointer (some q16)), (6, .pointer (some q19)), (7, .pointer (some q22))]) ?_ ?_
       ·refine bk ?_
        refine lp hl153 (fun s156 a w => St [] W H [K23, K20, K17, H] [] w ∧ Has [] 127 a [(1, .slice ad_swaps swaps.length cap_swaps), (4, .pointer (some q16)), (6, .pointer (some q19)), (7, .pointer (some q22)), (9, .int .i64 s156)]) ?_ ?_
        ·intro a w hS hA
         exact ⟨hS, hA.cut ⟨rfl, rfl, rfl, rfl, rfl, trivial⟩⟩
        ·rintro j s156 y159 hr157 hz158 a w ⟨hS, hA⟩
         refine TG.ap ?_ hS hA
         unfold m63_1 at hr157
         refine sq ?_
         refine sq ?_
         refine rg ?_
         refine mv rfl rfl ?_
         refine fb 2 Tryz.underlying73 rfl rfl rfl rfl Tryz.sizeOf3 ?_
         refine ld Tryz.isAgg3 rfl rfl (((sS 0 rfl hK24).drop 2).take 1) rfl ?_
         refine fb 3 Tryz.underlying73 rfl rfl rfl rfl Tryz.sizeOf3 ?_
         refine ld Tryz.isAgg3 rfl rfl (((sS 0 rfl hK24).drop 3).take 1) rfl ?_
         obtain ⟨hk160, hr161⟩ := chk_some hr157
         refine adI rfl rfl rfl hk160 ?_
         refine ltI rfl rfl rfl ?_
         refine on ?_
         refine ci rfl (fun hc165 => ?_) (fun hc165 => ?_)
         ·have hr166 := if_p hc165 hr161
          refine sk ?_
          refine sq ?_
          refine bk ?_
          refine sq ?_
          refine rg ?_
          refine ldA Tryz.isAgg68 Tryz.sizeOf68 rfl rfl (sS 1 rfl hK21) rfl ?_
          refine mv rfl rfl ?_
          refine fb 0 Tryz.underlying73 rfl rfl rfl rfl Tryz.sizeOf3 ?_
          refine ld Tryz.isAgg3 rfl rfl ((sS 0 rfl hK24).take 1) rfl ?_
          obtain ⟨r173, hx174, hr175⟩ := bd_some hr166
          refine clS Tryz.call93 rfl rfl rfl rfl (fun w H hH le => w93 hH r_2 (RReport.mono _ _ _ _ (le.at 3 rfl) hh_r_2) s156 q_3.by_ hx174) ?_
          refine nt rfl rfl ?_
          refine on ?_
          refine cb rfl (fun hc179 => ?_) (fun hc179 => ?_)
          ·replace hc179 := nbt hc179
           have hr180 := if_f hc179 hr175
           refine sq ?_
           refine rg ?_
           refine av rfl rfl ?_
           refine on ?_
           refine rt_ ?_
           obtain rfl := Option.some.inj hr180
           obtain rfl := Fin.out hz158
           obtain rfl := Option.some.inj hr154
           intro a w hS hA
           refine ret1 hA rfl rfl ?_
           exact ⟨rfl, hS.ext⟩
          ·replace hc179 := nbf hc179
           have hr181 := if_p hc179 hr175
           refine sk ?_
           refine rg ?_
           refine mv rfl rfl ?_
           obtain ⟨hk182, hr183⟩ := chk_some hr181
           refine adI rfl rfl rfl hk182 ?_
           refine av rfl rfl ?_
           refine on ?_
           obtain rfl := Option.some.inj hr183
           intro a w hS hA
           exact ⟨_, hz158, hS, hA.cut ⟨rfl, rfl, rfl, rfl, rfl, trivial⟩⟩
         ·have hr184 := if_n hc165 hr161
          refine xt rfl ?_
          obtain rfl := Option.some.inj hr184
          obtain rfl := Fin.out hz158
          intro a w hS hA
          exact ⟨_, rfl, hS, hA.cut ⟨rfl, rfl, rfl, rfl, trivial⟩⟩
       ·rintro a w ⟨t155, rfl, hS, hA⟩
        refine TG.ap ?_ hS hA
        refine sq ?_
        refine sq ?_
        obtain ⟨t190, hx191, hr192⟩ := bd_some hr154
        refine jn (fun a w => St [] W H [K23, K20, K17, H] [] w ∧ Has [] 127 a [(1, .slice ad_swaps swaps.length cap_swaps), (4, .pointer (some q16)), (6, .pointer (some q19)), (7, .pointer (some q22)), (108, .bool t190)]) ?_ ?_
        ·refine rg ?_
         refine fb 1 Tryz.underlying73 rfl rfl rfl rfl Tryz.sizeOf3 ?_
         refine ld Tryz.isAgg3 rfl rfl (((sS 0 rfl hK24).drop 1).take 1) rfl ?_
         refine fb 1 Tryz.underlying68 rfl rfl rfl rfl Tryz.sizeOf3 ?_
         refine ld Tryz.isAgg3 rfl rfl (((sS 1 rfl hK21).drop 1).take 1) rfl ?_
         refine ltI rfl rfl rfl ?_
         refine mv rfl rfl ?_
         by_cases hb193 : q_3.minute < r_2.out
         ·have hr194 := if_p hb193 hx191
          refine gF rfl rfl (decide_eq_true hb193) rfl ?_
          refine gF rfl rfl (decide_eq_true hb193) rfl ?_
          refine gF rfl rfl (decide_eq_true hb193) rfl ?_
          refine gF rfl rfl (decide_eq_true hb193) rfl ?_
          refine gF rfl rfl (decide_eq_true hb193) rfl ?_
          refine gF rfl rfl (decide_eq_true hb193) rfl ?_
          refine gF rfl rfl (decide_eq_true hb193) rfl ?_
          refine gF rfl rfl (decide_eq_true hb193) rfl ?_
          refine pT rfl rfl (decide_eq_true hb193) rfl ?_
          refine on ?_
          obtain rfl := Option.some.inj hr194
          intro a w hS hA
          exact ⟨hS, hA.cut ⟨rfl, rfl, rfl, rfl, rfl, trivial⟩⟩
         ·have hr195 := if_n hb193 hx191
          refine gN rfl rfl (decide_eq_false hb193) ?_
          refine fb 1 Tryz.underlying73 rfl rfl rfl rfl Tryz.sizeOf3 ?_
          refine gN rfl rfl (decide_eq_false hb193) ?_
          refine ld Tryz.isAgg3 rfl rfl (((sS 0 rfl hK24).drop 1).take 1) rfl ?_
          refine gN rfl rfl (decide_eq_false hb193) ?_
          refine fb 1 Tryz.underlying68 rfl rfl rfl rfl Tryz.sizeOf3 ?_
          refine gN rfl rfl (decide_eq_false hb193) ?_
          refine ld Tryz.isAgg3 rfl rfl (((sS 1 rfl hK21).drop 1).take 1) rfl ?_
          refine gN rfl rfl (decide_eq_false hb193) ?_
          refine fb 2 Tryz.underlying68 rfl rfl rfl rfl Tryz.sizeOf3 ?_
          refine gN rfl rfl (decide_eq_false hb193) ?_
          refine ld Tryz.isAgg3 rfl rfl ((sS 1 rfl hK21).drop 2) rfl ?_
          refine gN rfl rfl (decide_eq_false hb193) ?_
          obtain ⟨hk196, hr197⟩ := chk_some hr195
          refine adI rfl rfl rfl hk196 ?_
          refine gN rfl rfl (decide_eq_false hb193) ?_
          refine gtI rfl rfl rfl ?_
          refine pF rfl rfl (decide_eq_false hb193) rfl ?_
          refine on ?_
          obtain rfl := Option.some.inj hr197
          intro a w hS hA
          exact ⟨hS, hA.cut ⟨rfl, rfl, rfl, rfl, rfl, trivial⟩⟩
        ·rintro a w ⟨hS, hA⟩
         refine TG.ap ?_ hS hA
         refine cb rfl (fun hc201 => ?_) (fun hc201 => ?_)
         ·have hr202 := if_p hc201 hr192
          refine sq ?_
          refine rg ?_
          refine av rfl rfl ?_
          refine on ?_
          refine rt_ ?_
          obtain rfl := Option.some.inj hr202
          intro a w hS hA
          refine ret1 hA rfl rfl ?_
          exact ⟨rfl, hS.ext⟩
         ·have hr203 := if_f hc201 hr192
          refine sk ?_
          refine sq ?_
          refine sq ?_
          obtain ⟨hk204, hr205⟩ := chk_some hr203
          obtain ⟨r206, hx207, hr208⟩ := bd_some hr205
          obtain ⟨r216, hx217, hr218⟩ := bd_some hr208
          obtain ⟨r226, hx227, hr228⟩ := bd_some hr218
          refine drG 16 T4.mixed (by kernel_rfl) rfl ?_
          refine DF.det rfl (fun a w K hS hA hF => TG.pa hS hA (mv rfl rfl fin1)) ?_
          refine DF.det rfl (fun a w K hS hA hF => TG.pa hS hA (ldA Tryz.isAgg26 Tryz.sizeOf26 rfl rfl (sS 3 rfl hK18) rfl fin1)) ?_
          refine DF.det rfl (fun a w K hS hA hF => TG.pa hS hA (ldA Tryz.isAgg68 Tryz.sizeOf68 rfl rfl (sS 2 rfl hK21) rfl fin1)) ?_
          refine DF.det rfl (fun a w K hS hA hF => TG.pa hS hA (fb 2 Tryz.underlying73 rfl rfl rfl rfl Tryz.sizeOf3 fin1)) ?_
          refine DF.det rfl (fun a w K hS hA hF => TG.pa hS hA (ld Tryz.isAgg3 rfl rfl (((sS 1 rfl hK24).drop 2).take 1) rfl fin1)) ?_
          refine DF.det rfl (fun a w K hS hA hF => TG.pa hS hA (fb 2 Tryz.underlying73 rfl rfl rfl rfl Tryz.sizeOf3 fin1)) ?_
          refine DF.det rfl (fun a w K hS hA hF => TG.pa hS hA (ld Tryz.isAgg3 rfl rfl (((sS 1 rfl hK24).drop 2).take 1) rfl fin1)) ?_
          refine DF.det rfl (fun a w K hS hA hF => TG.pa hS hA (fb 3 Tryz.underlying73 rfl rfl rfl rfl Tryz.sizeOf3 fin1)) ?_
          refine DF.det rfl (fun a w K hS hA hF => TG.pa hS hA (ld Tryz.isAgg3 rfl rfl (((sS 1 rfl hK24).drop 3).take 1) rfl fin1)) ?_
          refine DF.det rfl (fun a w K hS hA hF => TG.pa hS hA (adI rfl rfl rfl hk204 fin1)) ?_
          refine DF.und (α := Option Addr × Nat) (none, 0) (fun q => .slice q.1 r206.length q.2) (fun (q : Option Addr × Nat) K => Sl (Flat encS) 1 K q.1 q.2 r206) (fun _ _ _ h x => x.mono (Flat.mono _) h) (by kernel_rfl) rfl (fun a w K hS hA hF => TG.pa hS hA (clK Tryz.call47 rfl rfl rfl rfl (fun w H hH le => w47 hH r_2 (RReport.mono _ _ _ _ (le.at 4 rfl) hh_r_2) q_3.from_ (q_3.from_ + q_3.cut) hx207) (by
            rintro v_ K209 ⟨ad210, cap211, rfl, hl212⟩
            exact finU (f := fun q => .slice q.1 r206.length q.2) (G := (fun (q : Option Addr × Nat) K => Sl (Flat encS) 1 K q.1 q.2 r206)) (_, _) (fun _ _ _ h x => x.mono (Flat.mono _) h) hl212))) ?_
          rintro ⟨ad214, cap215⟩
          refine DF.und (α := Option Addr × Nat) (none, 0) (fun q => .slice q.1 r216.length q.2) (fun (q : Option Addr × Nat) K => Sl (Flat encMark) 2 K q.1 q.2 r216) (fun _ _ _ h x => x.mono (Flat.mono _) h) (by kernel_rfl) rfl (fun a w K hS hA hF => TG.pa hS hA (clK Tryz.call25 rfl rfl rfl rfl (fun w H hH le => w25 hH l_0 (RLexicon.mono _ _ _ _ (le.at 4 rfl) hh_l_0) ((hF.1 rfl).mono (Flat.mono _) (le.at 0 rfl)) hx217) (by
            rintro v_ K219 ⟨ad220, cap221, rfl, hl222⟩
            exact finU (f := fun q => .slice q.1 r216.length q.2) (G := (fun (q : Option Addr × Nat) K => Sl (Flat encMark) 2 K q.1 q.2 r216)) (_, _) (fun _ _ _ h x => x.mono (Flat.mono _) h) hl222))) ?_
          rintro ⟨ad224, cap225⟩
          refine DF.det rfl (fun a w K hS hA hF => TG.pa hS hA (ldA Tryz.isAgg26 Tryz.sizeOf26 rfl rfl (sS 3 rfl hK18) rfl fin1)) ?_
          refine DF.det rfl (fun a w K hS hA hF => TG.pa hS hA (fb 4 Tryz.underlying73 rfl rfl rfl rfl Tryz.sizeOf24 fin1)) ?_
          refine DF.det rfl (fun a w K hS hA hF => TG.pa hS hA (ld Tryz.isAgg24 rfl rfl ((sS 1 rfl hK24).drop 4) rfl fin1)) ?_
          refine DF.und (α := Option Addr × Nat) (none, 0) (fun q => .slice q.1 r226.length q.2) (fun (q : Option Addr × Nat) K => Sl (Flat encMark) 2 K q.1 q.2 r226) (fun _ _ _ h x => x.mono (Flat.mono _) h) (by kernel_rfl) rfl (fun a w K hS hA hF => TG.pa hS hA (clK Tryz.call25 rfl rfl rfl rfl (fun w H hH le => w25 hH l_0 (RLexicon.mono _ _ _ _ (le.at 4 rfl) hh_l_0) (hl15.mono (Flat.mono _) (le.at 4 rfl)) hx227) (by
            rintro v_ K229 ⟨ad230, cap231, rfl, hl232⟩
            exact finU (f := fun q => .slice q.1 r226.length q.2) (G := (fun (q : Option Addr × Nat) K => Sl (Flat encMark) 2 K q.1 q.2 r226)) (_, _) (fun _ _ _ h x => x.mono (Flat.mono _) h) hl232))) ?_
          rintro ⟨ad234, cap235⟩
          refine DF.nil fun K236 hF => ?_
          obtain ⟨hu233, hu223, hu213, _⟩ := hF
          have := hu213.len
          have := hu223.len
          have := hu233.len
          obtain ⟨r237, hx238, hr239⟩ := bd_some hr228
          refine clS Tryz.call94 rfl rfl rfl rfl (fun w H hH le => w94 hH (h_swaps.mono (Flat.mono _) (le.at 4 rfl)) (hu223.mono (Flat.mono _) (le.at 0 rfl)) (hu233.mono (Flat.mono _) (le.at 0 rfl)) hx238) ?_
          refine nt rfl rfl ?_
          refine on ?_
          refine cb rfl (fun hc243 => ?_) (fun hc243 => ?_)
          ·replace hc243 := nbt hc243
           have hr244 := if_f hc243 hr239
           refine sq ?_
           refine rg ?_
           refine av rfl rfl ?_
           refine on ?_
           refine rt_ ?_
           obtain rfl := Option.some.inj hr244
           intro a w hS hA
           refine ret1 hA rfl rfl ?_
           exact ⟨rfl, hS.ext⟩
          ·replace hc243 := nbf hc243
           have hr245 := if_p hc243 hr239
           refine sk ?_
           refine sq ?_
           refine rg ?_
           refine av rfl rfl ?_
           refine on ?_
           refine rt_ ?_
           obtain rfl := Option.some.inj hr245
           intro a w hS hA
           refine ret1 hA rfl rfl ?_
           exact ⟨rfl, hS.ext⟩

theorem w39 {W : World} {H : Hp} (hH : H.le (hp W)) {cs_l_0 : List Value} (l_0 : Lexicon) (h_l_0 : (RLexicon) H cs_l_0 l_0) {ad_swaps : Option Addr} {cap_swaps : Nat} {swaps : List Swap} (h_swaps : Sl (Flat encSwap) 3 H ad_swaps cap_swaps swaps) {cs_r_2 : List Value} (r_2 : Report) (h_r_2 : (RReport) H cs_r_2 r_2) {ad_requests : Option Addr} {cap_requests : Nat} {requests : List Request} (h_requests : Sl (RRequest) 5 H ad_requests cap_requests requests) {r : List Int} (hr : m39 l_0 swaps r_2 requests = some r) : Calls Tryz.prog 39 [.agg cs_l_0.toArray, .slice ad_swaps swaps.length cap_swaps, .agg cs_r_2.toArray, .slice ad_requests requests.length cap_requests].toArray W (RetK H W (fun v K => ∃ (ad0 : Option Addr) (cap0 : Nat), v = .slice ad0 r.length cap0 ∧ Sl (Flat (encI .i64)) 1 K ad0 cap0 r)) := by
 have hh_l_0 := h_l_0
 obtain ⟨ad1, cap2, ad4, cap5, ad7, cap8, rfl, hl3, hl6, hl9⟩ := h_l_0
 have := hl3.len
 have := hl6.len
 have := hl9.len
 have := h_swaps.len
 have hh_r_2 := h_r_2
 obtain ⟨ad10, cap11, rfl, hl12⟩ := h_r_2
 have := hl12.len
 have := h_requests.len
 unfold m39 at hr
 refine enterG Tryz.func39 rfl Tryz.ntmps39 rfl hH ?_
 refine sq ?_
 refine rg ?_
 refine bI (cs := [.slice ad1 l_0.numbers.length cap2, .slice ad4 l_0.names.length cap5, .slice ad7 l_0.nots.length cap8]) rfl rfl rfl fun q13 K14 hK15 => ?_
 refine bI (cs := [.slice ad10 r_2.words.length cap11, .int .i64 r_2.out, .int .i64 r_2.within]) rfl rfl rfl fun q16 K17 hK18 => ?_
 refine av rfl rfl ?_
 refine on ?_
 refine sq ?_
 refine rg ?_
 refine mv rfl rfl ?_
 refine lnL Tryz.underlying69 rfl rfl ?_
 obtain ⟨hk19, hr20⟩ := chk_some hr
 have : (List.replicate requests.length (0 : Int)).length = requests.length := List.length_replicate
 refine mkL 1 (encI .i64) (0 : Int) T4.E86 rfl rfl rfl rfl rfl rfl rfl hk19 fun b21 => ?_
 refine av rfl rfl ?_
 refine on ?_
 refine sq ?_
 refine rg ?_
 refine mv rfl rfl ?_
 refine lnL Tryz.underlying69 rfl rfl ?_
 have : (List.replicate requests.length false).length = requests.length := List.length_replicate
 refine mkL 2 encB false T4.E136 rfl rfl rfl rfl rfl rfl rfl hk19 fun b22 => ?_
 refine av rfl rfl ?_
 refine on ?_
 refine sq ?_
 refine rg ?_
 refine av rfl rfl ?_
 refine on ?_
 refine sq ?_
 refine sq ?_
 refine rg ?_
 refine av rfl rfl ?_
 refine on ?_
 refine TG.nilRow 4 73 5 ?_
 have hR120 : Rows (RRequest) 5 H [] ([] : List Request) := trivial
 refine TG.as 4 (z := Own.rows none 0 73 5 [] ([] : List Request)) rfl rfl ?_
 obtain ⟨e446, hl447, hr448⟩ := bd_some hr20
 refine jn (fun a w => ∃ (ad449 : Option Addr) (cap450 : Nat) (css451 : List (List Value)) (K452 : Hp), St [] W H [K452, K17, K14, H] [(4, Own.rows ad449 cap450 73 5 css451 e446.1), (2, Own.list (some ⟨b22, 0, none⟩) requests.length 4 1 encB e446.2.1), (1, Own.list (some ⟨b21, 0, none⟩) requests.length 3 1 (encI .i64) e446.2.2)] w ∧ Has [] 98 a [(9, .slice (some ⟨b21, 0, none⟩) ((List.replicate requests.length (0 : Int)).length) requests.length)] ∧ Rows (RRequest) 5 K452 css451 e446.1 ∧ e446.2.1.length = (List.replicate requests.length false).length ∧ e446.2.2.length = (List.replicate requests.length (0 : Int)).length) ?_ ?_
 ·refine bk ?_
  refine lp hl447 (fun s456 a w => ∃ (ad457 : Option Addr) (cap458 : Nat) (css459 : List (List Value)) (K460 : Hp), St [] W H [K460, K17, K14, H] [(4, Own.rows ad457 cap458 73 5 css459 s456.2.1), (2, Own.list (some ⟨b22, 0, none⟩) requests.length 4 1 encB s456.2.2.1), (1, Own.list (some ⟨b21, 0, none⟩) requests.length 3 1 (encI .i64) s456.2.2.2)] w ∧ Has [] 98 a [(1, .slice ad_swaps swaps.length cap_swaps), (3, .slice ad_requests requests.length cap_requests), (4, .pointer (some q13)), (6, .pointer (some q16)), (9, .slice (some ⟨b21, 0, none⟩) ((List.replicate requests.length (0 : Int)).length) requests.length), (10, .slice (some ⟨b22, 0, none⟩) ((List.replicate requests.length false).length) requests.length), (11, .slice ad457 s456.2.1.length cap458), (12, .int .i64 (s456.1 : Int))] ∧ Rows (RRequest) 5 K460 css459 s456.2.1 ∧ s456.2.2.1.length = (List.replicate requests.length false).length ∧ s456.2.2.2.length = (List.replicate requests.length (0 : Int)).length) ?_ ?_
  ·intro a w hS hA
   exact ⟨none, 0, [], H, hS.selH [2, 0, 1, 2] rfl, hA.cut ⟨rfl, rfl, rfl, rfl, rfl, rfl, rfl, rfl, trivial⟩, hR120, rfl, rfl⟩
  ·rintro j s456 y466 hr464 hz465 a w ⟨ad457, cap458, css459, K460, hS, hA, hR461, hln462, hln463⟩
   refine TG.ap ?_ hS hA
   unfold m39_1 at hr464
   refine sq ?_
   refine sq ?_
   refine rg ?_
   refine mv rfl rfl ?_
   refine mv rfl rfl ?_
   refine lnL Tryz.underlying69 rfl rfl ?_
   refine ltI rfl rfl rfl ?_
   refine on ?_
   refine ci rfl (fun hc470 => ?_) (fun hc470 => ?_)
   ·have hr471 := if_p hc470 hr464
    refine sk ?_
    refine sq ?_
    refine bk ?_
    refine sq ?_
    refine rg ?_
    refine av rfl rfl ?_
    refine on ?_
    refine sq ?_
    refine sq ?_
    refine rg ?_
    refine av rfl rfl ?_
    refine on ?_
    obtain ⟨e642, hl643, hr644⟩ := bd_some hr471
    refine jn (fun a w => St [] W H [K460, K17, K14, H] [(4, Own.rows ad457 cap458 73 5 css459 s456.2.1), (2, Own.list (some ⟨b22, 0, none⟩) requests.length 4 1 encB s456.2.2.1), (1, Own.list (some ⟨b21, 0, none⟩) requests.length 3 1 (encI .i64) s456.2.2.2)] w ∧ Has [] 98 a [(1, .slice ad_swaps swaps.length cap_swaps), (3, .slice ad_requests requests.length cap_requests), (4, .pointer (some q13)), (6, .pointer (some q16)), (9, .slice (some ⟨b21, 0, none⟩) ((List.replicate requests.length (0 : Int)).length) requests.length), (10, .slice (some ⟨b22, 0, none⟩) ((List.replicate requests.length false).length) requests.length), (11, .slice ad457 s456.2.1.length cap458), (12, .int .i64 (s456.1 : Int)), (13, .int .i64 e642)]) ?_ ?_
    ·refine bk ?_
     refine lp hl643 (fun s645 a w => St [] W H [K460, K17, K14, H] [(4, Own.rows ad457 cap458 73 5 css459 s456.2.1), (2, Own.list (some ⟨b22, 0, none⟩) requests.length 4 1 encB s456.2.2.1), (1, Own.list (some ⟨b21, 0, none⟩) requests.length 3 1 (encI .i64) s456.2.2.2)] w ∧ Has [] 98 a [(1, .slice ad_swaps swaps.length cap_swaps), (3, .slice ad_requests requests.length cap_requests), (4, .pointer (some q13)), (6, .pointer (some q16)), (9, .slice (some ⟨b21, 0, none⟩) ((List.replicate requests.length (0 : Int)).length) requests.length), (10, .slice (some ⟨b22, 0, none⟩) ((List.replicate requests.length false).length) requests.length), (11, .slice ad457 s456.2.1.length cap458), (12, .int .i64 (s456.1 : Int)), (13, .int .i64 s645.2), (14, .int .i64 (s645.1 : Int))]) ?_ ?_
     ·intro a w hS hA
      exact ⟨hS, hA.cut ⟨rfl, rfl, rfl, rfl, rfl, rfl, rfl, rfl, rfl, rfl, trivial⟩⟩
     ·rintro j s645 y648 hr646 hz647 a w ⟨hS, hA⟩
      refine TG.ap ?_ hS hA
      unfold m39_2 at hr646
      refine sq ?_
      refine sq ?_
      refine rg ?_
      refine mv rfl rfl ?_
      refine mv rfl rfl ?_
      refine lnL Tryz.underlying69 rfl rfl ?_
      refine ltI rfl rfl rfl ?_
      refine on ?_
      refine ci rfl (fun hc652 => ?_) (fun hc652 => ?_)
      ·have hr653 := if_p hc652 hr646
       refine sk ?_
       refine sq ?_
       refine bk ?_
       refine sq ?_
       obtain ⟨t683, hx684, hr685⟩ := bd_some hr653
       refine jn (fun a w => St [] W H [K460, K17, K14, H] [(4, Own.rows ad457 cap458 73 5 css459 s456.2.1), (2, Own.list (some ⟨b22, 0, none⟩) requests.length 4 1 encB s456.2.2.1), (1, Own.list (some ⟨b21, 0, none⟩) requests.length 3 1 (encI .i64) s456.2.2.2)] w ∧ Has [] 98 a [(1, .slice ad_swaps swaps.length cap_swaps), (3, .slice ad_requests requests.length cap_requests), (4, .pointer (some q13)), (6, .pointer (some q16)), (9, .slice (some ⟨b21, 0, none⟩) ((List.replicate requests.length (0 : Int)).length) requests.length), (10, .slice (some ⟨b22, 0, none⟩) ((List.replicate requests.length false).length) requests.length), (11, .slice ad457 s456.2.1.length cap458), (12, .int .i64 (s456.1 : Int)), (13, .int .i64 s645.2), (14, .int .i64 (s645.1 : Int)), (49, .bool t683)]) ?_ ?_
       ·refine rg ?_
        refine mv rfl rfl ?_
        refine mv rfl rfl ?_
        obtain ⟨x686, hx687, hr688⟩ := bd_some hx684
        refine iaP Tryz.underlying136 Tryz.sizeOf4 rfl rfl rfl rfl (Nat.lt_of_lt_of_eq (lt_of hx687) hln462) ?_
        refine ld Tryz.isAgg4 rfl rfl (sE 2 rfl (fun _ => rfl) hx687) rfl ?_
        refine nt rfl rfl ?_
        refine mv rfl rfl ?_
        rcases Bool.eq_false_or_eq_true (x686) with hb689 | hb689
        ·have hr690 := if_p hb689 hr688
         refine gF rfl rfl (congrArg not (hb689)) rfl ?_
         refine gF rfl rfl (congrArg not (hb689)) rfl ?_
         refine gF rfl rfl (congrArg not (hb689)) rfl ?_
         refine gU rfl rfl rfl ?_
         refine gU rfl rfl rfl ?_
         refine gU rfl rfl rfl ?_
         refine gU rfl rfl rfl ?_
         refine gF rfl rfl (congrArg not (hb689)) rfl ?_
         refine pF rfl rfl (congrArg not (hb689)) rfl ?_
         refine on ?_
         obtain rfl := Option.some.inj hr690
         intro a w hS hA
         exact ⟨hS, hA.cut ⟨rfl, rfl, rfl, rfl, rfl, rfl, rfl, rfl, rfl, rfl, rfl, trivial⟩⟩
        ·have hr691 := if_f hb689 hr688
         refine gN rfl rfl (congrArg not (hb689)) ?_
         refine mv rfl rfl ?_
         refine gN rfl rfl (congrArg not (hb689)) ?_
         refine ltI rfl rfl rfl ?_
         refine gN rfl rfl (congrArg not (hb689)) ?_
         refine mv rfl rfl ?_
         by_cases hb692 : s645.2 < 0
         ·have hr693 := if_p hb692 hr691
          refine gF rfl rfl (decide_eq_true hb692) rfl ?_
          refine gF rfl rfl (decide_eq_true hb692) rfl ?_
          refine gF rfl rfl (decide_eq_true hb692) rfl ?_
          refine gF rfl rfl (decide_eq_true hb692) rfl ?_
          refine gN rfl rfl (congrArg not (hb689)) ?_
          refine pT rfl rfl (decide_eq_true hb692) rfl ?_
          refine pT rfl rfl (congrArg not (hb689)) rfl ?_
          refine on ?_
          obtain rfl := Option.some.inj hr693
          intro a w hS hA
          exact ⟨hS, hA.cut ⟨rfl, rfl, rfl, rfl, rfl, rfl, rfl, rfl, rfl, rfl, rfl, trivial⟩⟩
         ·have hr694 := if_n hb692 hr691
          refine gN rfl rfl (decide_eq_false hb692) ?_
          refine mv rfl rfl ?_
          refine gN rfl rfl (decide_eq_false hb692) ?_
          refine mv rfl rfl ?_
          refine gN rfl rfl (decide_eq_false hb692) ?_
          refine mv rfl rfl ?_
          refine gN rfl rfl (decide_eq_false hb692) ?_
          obtain ⟨r695, hx696, hr697⟩ := bd_some hr694
          refine clS Tryz.call62 rfl rfl rfl rfl (fun w H hH le => w62 hH (h_requests.mono (RRequest.mono) (le.at 3 rfl)) (s645.1 : Int) s645.2 hx696) ?_
          refine gN rfl rfl (congrArg not (hb689)) ?_
          refine pF rfl rfl (decide_eq_false hb692) rfl ?_
          refine pT rfl rfl (congrArg not (hb689)) rfl ?_
          refine on ?_
          obtain rfl := Option.some.inj hr697
          intro a w hS hA
          exact ⟨hS, hA.cut ⟨rfl, rfl, rfl, rfl, rfl, rfl, rfl, rfl, rfl, rfl, rfl, trivial⟩⟩
       ·rintro a w ⟨hS, hA⟩
        refine TG.ap ?_ hS hA
        obtain ⟨t701, hx702, hr703⟩ := bd_some hr685
        refine jn (fun a w => St [] W H [K460, K17, K14, H] [(4, Own.rows ad457 cap458 73 5 css459 s456.2.1), (2, Own.list (some ⟨b22, 0, none⟩) requests.length 4 1 encB s456.2.2.1), (1, Own.list (some ⟨b21, 0, none⟩) requests.length 3 1 (encI .i64) s456.2.2.2)] w ∧ Has [] 98 a [(1, .slice ad_swaps swaps.length cap_swaps), (3, .slice ad_requests requests.length cap_requests), (4, .pointer (some q13)), (6, .pointer (some q16)), (9, .slice (some ⟨b21, 0, none⟩) ((List.replicate requests.length (0 : Int)).length) requests.length), (10, .slice (some ⟨b22, 0, none⟩) ((List.replicate requests.length false).length) requests.length), (11, .slice ad457 s456.2.1.length cap458), (12, .int .i64 (s456.1 : Int)), (13, .int .i64 t701), (14, .int .i64 (s645.1 : Int))]) ?_ ?_
        ·refine cb rfl (fun hc704 => ?_) (fun hc704 => ?_)
         ·have hr705 := if_p hc704 hx702
          refine rg ?_
          refine mv rfl rfl ?_
          refine av rfl rfl ?_
          refine on ?_
          obtain rfl := Option.some.inj hr705
          intro a w hS hA
          exact ⟨hS, hA.cut ⟨rfl, rfl, rfl, rfl, rfl, rfl, rfl, rfl, rfl, rfl, trivial⟩⟩
         ·have hr706 := if_f hc704 hx702
          refine sk ?_
          obtain rfl := Option.some.inj hr706
          intro a w hS hA
          exact ⟨hS, hA.cut ⟨rfl, rfl, rfl, rfl, rfl, rfl, rfl, rfl, rfl, rfl, trivial⟩⟩
        ·rintro a w ⟨hS, hA⟩
         refine TG.ap ?_ hS hA
         refine rg ?_
         refine mv rfl rfl ?_
         refine adI rfl rfl rfl (by omega) ?_
         refine av rfl rfl ?_
         refine on ?_
         obtain rfl := Option.some.inj hr703
         intro a w hS hA
         exact ⟨_, hz647, hS, hA.cut ⟨rfl, rfl, rfl, rfl, rfl, rfl, rfl, rfl, rfl, rfl, trivial⟩⟩
      ·have hr707 := if_n hc652 hr646
       refine xt rfl ?_
       obtain rfl := Option.some.inj hr707
       obtain rfl := Fin.out hz647
       intro a w hS hA
       exact ⟨hS, hA.cut ⟨rfl, rfl, rfl, rfl, rfl, rfl, rfl, rfl, rfl, trivial⟩⟩
    ·rintro a w ⟨hS, hA⟩
     refine TG.ap ?_ hS hA
     refine sq ?_
     refine rg ?_
     refine mv rfl rfl ?_
     refine mv rfl rfl ?_
     obtain ⟨hk708, hr709⟩ := chk_some hr644
     obtain ⟨x710, hx711, hr712⟩ := bd_some hr709
     refine iaP Tryz.underlying136 Tryz.sizeOf4 rfl rfl rfl (by omega) (Nat.lt_of_lt_of_eq (lt_of hx711) hln462) ?_
     have hln713 : (s456.2.2.1.set e642.toNat true).length = (List.replicate requests.length false).length := (lenS _ _ _).trans hln462
     refine stE 2 true (q := ⟨b22, 0, none⟩) (j := e642.toNat) (size := 1) (cs := [.bool true]) (off := 0) Tryz.sizeOf4 rfl rfl rfl (fun _ => rfl) hx711 rfl rfl rfl rfl rfl ?_
     refine on ?_
     refine sq ?_
     refine rg ?_
     refine mv rfl rfl ?_
     refine mv rfl rfl ?_
     obtain ⟨x714, hx715, hr716⟩ := bd_some hr712
     obtain ⟨p717, rfl⟩ := h_requests.adr hx715
     obtain ⟨cs718, hcs719, hq720, hr721⟩ := h_requests.at hx715
     have hr722 := hr721
     obtain ⟨ad723, cap724, rfl, hl725⟩ := hr721
     have := hl725.len
     refine iaP Tryz.underlying69 Tryz.sizeOf73 rfl rfl rfl (by omega) (lt_of hx715) ?_
     refine ldA Tryz.isAgg73 Tryz.sizeOf73 rfl rfl (sS 3 rfl hq720) rfl ?_
     refine va (cs := [.int .i64 x714.by_, .int .i64 x714.minute, .int .i64 x714.from_, .int .i64 x714.cut, .slice ad723 x714.put_.length cap724]) Tryz.zeroValue73 Tryz.sizeOf73 rfl rfl rfl rfl rfl rfl rfl rfl fun q726 K727 hK728 => ?_
     refine on ?_
     refine sq ?_
     refine rg ?_
     refine mv rfl rfl ?_
     refine mv rfl rfl ?_
     refine ldA Tryz.isAgg26 Tryz.sizeOf26 rfl rfl (sS 3 rfl hK15) rfl ?_
     refine mv rfl rfl ?_
     refine ldA Tryz.isAgg68 Tryz.sizeOf68 rfl rfl (sS 2 rfl hK18) rfl ?_
     refine ldA Tryz.isAgg73 Tryz.sizeOf73 rfl rfl (sS 0 rfl hK728) rfl ?_
     obtain ⟨r729, hx730, hr731⟩ := bd_some hr716
     refine clS Tryz.call63 rfl rfl rfl rfl (fun w H hH le => w63 hH l_0 (RLexicon.mono _ _ _ _ (le.at 4 rfl) hh_l_0) (h_swaps.mono (Flat.mono _) (le.at 4 rfl)) r_2 (RReport.mono _ _ _ _ (le.at 4 rfl) hh_r_2) x714 (RRequest.mono _ _ _ _ (le.at 4 rfl) hr722) hx730) ?_
     obtain ⟨x732, hx733, hr734⟩ := bd_some hr731
     refine iaP Tryz.underlying86 Tryz.sizeOf3 rfl rfl rfl (by omega) (Nat.lt_of_lt_of_eq (lt_of hx733) hln463) ?_
     have hln735 : (s456.2.2.2.set e642.toNat r729).length = (List.replicate requests.length (0 : Int)).length := (lenS _ _ _).trans hln463
     refine stE 1 r729 (q := ⟨b21, 0, none⟩) (j := e642.toNat) (size := 1) (cs := [.int .i64 r729]) (off := 0) Tryz.sizeOf3 rfl rfl rfl (fun _ => rfl) hx733 rfl rfl rfl rfl rfl ?_
     refine on ?_
     refine sq ?_
     refine sq ?_
     refine rg ?_
     refine av rfl rfl ?_
     refine on ?_
     obtain ⟨e814, hl815, hr816⟩ := bd_some hr734
     refine jn (fun a w => St [] W H [K727, K460, K17, K14, H] [(4, Own.rows ad457 cap458 73 5 css459 s456.2.1), (2, Own.list (some ⟨b22, 0, none⟩) requests.length 4 1 encB (s456.2.2.1.set e642.toNat true)), (1, Own.list (some ⟨b21, 0, none⟩) requests.length 3 1 (encI .i64) e814)] w ∧ Has [] 98 a [(1, .slice ad_swaps swaps.length cap_swaps), (3, .slice (some p717) requests.length cap_requests), (4, .pointer (some q13)), (6, .pointer (some q16)), (9, .slice (some ⟨b21, 0, none⟩) ((List.replicate requests.length (0 : Int)).length) requests.length), (10, .slice (some ⟨b22, 0, none⟩) ((List.replicate requests.length false).length) requests.length), (11, .slice ad457 s456.2.1.length cap458), (12, .int .i64 (s456.1 : Int)), (13, .int .i64 e642), (15, .pointer (some q726))] ∧ e814.length = (List.replicate requests.length (0 : Int)).length) ?_ ?_
     ·refine bk ?_
      refine lp hl815 (fun s818 a w => St [] W H [K727, K460, K17, K14, H] [(4, Own.rows ad457 cap458 73 5 css459 s456.2.1), (2, Own.list (some ⟨b22, 0, none⟩) requests.length 4 1 encB (s456.2.2.1.set e642.toNat true)), (1, Own.list (some ⟨b21, 0, none⟩) requests.length 3 1 (encI .i64) s818.2)] w ∧ Has [] 98 a [(1, .slice ad_swaps swaps.length cap_swaps), (3, .slice (some p717) requests.length cap_requests), (4, .pointer (some q13)), (6, .pointer (some q16)), (9, .slice (some ⟨b21, 0, none⟩) ((List.replicate requests.length (0 : Int)).length) requests.length), (10, .slice (some ⟨b22, 0, none⟩) ((List.replicate requests.length false).length) requests.length), (11, .slice ad457 s456.2.1.length cap458), (12, .int .i64 (s456.1 : Int)), (13, .int .i64 e642), (15, .pointer (some q726)), (16, .int .i64 (s818.1 : Int))] ∧ s818.2.length = (List.replicate requests.length (0 : Int)).length) ?_ ?_
      ·intro a w hS hA
       exact ⟨hS, hA.cut ⟨rfl, rfl, rfl, rfl, rfl, rfl, rfl, rfl, rfl, rfl, rfl, trivial⟩, hln735⟩
      ·rintro j s818 y822 hr820 hz821 a w ⟨hS, hA, hln819⟩
       refine TG.ap ?_ hS hA
       unfold m39_3 at hr820
       refine sq ?_
       refine sq ?_
       refine rg ?_
       refine mv rfl rfl ?_
       refine mv rfl rfl ?_
       refine TG.len 4 rfl fun _ => ?_
       refine lnL Tryz.underlying69 rfl rfl ?_
       refine ltI rfl rfl rfl ?_
       refine on ?_
       refine ci rfl (fun hc826 => ?_) (fun hc826 => ?_)
       ·have hr827 := if_p hc826 hr820
        refine sk ?_
        refine sq ?_
        refine bk ?_
        refine sq ?_
        obtain ⟨t886, hx887, hr888⟩ := bd_some hr827
        refine jn (fun a w => St [] W H [K727, K460, K17, K14, H] [(4, Own.rows ad457 cap458 73 5 css459 s456.2.1), (2, Own.list (some ⟨b22, 0, none⟩) requests.length 4 1 encB (s456.2.2.1.set e642.toNat true)), (1, Own.list (some ⟨b21, 0, none⟩) requests.length 3 1 (encI .i64) s818.2)] w ∧ Has [] 98 a [(1, .slice ad_swaps swaps.length cap_swaps), (3, .slice (some p717) requests.length cap_requests), (4, .pointer (some q13)), (6, .pointer (some q16)), (9, .slice (some ⟨b21, 0, none⟩) ((List.replicate requests.length (0 : Int)).length) requests.length), (10, .slice (some ⟨b22, 0, none⟩) ((List.replicate requests.length false).length) requests.length), (11, .slice ad457 s456.2.1.length cap458), (12, .int .i64 (s456.1 : Int)), (13, .int .i64 e642), (15, .pointer (some q726)), (16, .int .i64 (s818.1 : Int)), (84, .bool t886)]) ?_ ?_
        ·obtain ⟨x889, hx890, hr891⟩ := bd_some hx887
         by_cases hb892 : x889 = 0
         ·have hr893 := if_p hb892 hr891
          obtain ⟨x894, hx895, hr896⟩ := bd_some hr893
          refine TG.addr 4 rfl (lt_of0 hx895) fun b897 h => ?_; subst h
          obtain ⟨cs898, hr899, hl900, hcs901, sc902⟩ := sER hR461 hx895
          have hr903 := hr899
          obtain ⟨ad904, cap905, rfl, hl906⟩ := hr899
          have := hl906.len
          refine drG 11 T4.mixed (by kernel_rfl) rfl ?_
          refine DF.det rfl (fun a w K hS hA hF => TG.pa hS hA (mv rfl rfl fin1)) ?_
          refine DF.det rfl (fun a w K hS hA hF => TG.pa hS hA (mv rfl rfl fin1)) ?_
          refine DF.det rfl (fun a w K hS hA hF => TG.pa hS hA (iaP Tryz.underlying86 Tryz.sizeOf3 rfl rfl rfl (by omega) (Nat.lt_of_lt_of_eq (lt_of hx890) hln819) fin1)) ?_
          refine DF.det rfl (fun a w K hS hA hF => TG.pa hS hA (ld Tryz.isAgg3 rfl rfl (sE 1 rfl (fun _ => rfl) hx890) rfl fin1)) ?_
          refine DF.det rfl (fun a w K hS hA hF => TG.pa hS hA (eqI rfl rfl rfl fin1)) ?_
          refine DF.det rfl (fun a w K hS hA hF => TG.pa hS hA (mv rfl rfl fin1)) ?_
          refine DF.det rfl (fun a w K hS hA hF => TG.pa hS hA (gN rfl rfl (decide_eq_true hb892) (ldA Tryz.isAgg73 Tryz.sizeOf73 rfl rfl (sS 1 rfl hK728) rfl fin1))) ?_
          refine DF.det rfl (fun a w K hS hA hF => TG.pa hS hA (gN rfl rfl (decide_eq_true hb892) (mv rfl rfl fin1))) ?_
          refine DF.det rfl (fun a w K hS hA hF => TG.pa hS hA (gN rfl rfl (decide_eq_true hb892) (mv rfl rfl fin1))) ?_
          refine DF.det rfl (fun a w K hS hA hF => TG.pa hS hA (gN rfl rfl (decide_eq_true hb892) (iaP Tryz.underlying69 Tryz.sizeOf73 rfl rfl rfl rfl (lt_of hx895) fin1))) ?_
          refine DF.det rfl (fun a w K hS hA hF => TG.pa hS hA (gN rfl rfl (decide_eq_true hb892) (ldA Tryz.isAgg73 Tryz.sizeOf73 rfl rfl (sc902 (t := 4) rfl) rfl fin1))) ?_
          refine DF.nil fun K907 hF => ?_
          refine gN rfl rfl (decide_eq_true hb892) ?_
          obtain ⟨r908, hx909, hr910⟩ := bd_some hr896
          refine clS Tryz.call33 rfl rfl rfl rfl (fun w H hH le => w33 hH x714 (RRequest.mono _ _ _ _ (le.at 5 rfl) hr722) x894 (RRequest.mono _ _ _ _ (le.at 2 rfl) hr903) hx909) ?_
          refine pT rfl rfl (decide_eq_true hb892) rfl ?_
          refine on ?_
          obtain rfl := Option.some.inj hr910
          intro a w hS hA
          exact ⟨hS.selH [1, 2, 3, 4, 5] rfl, hA.cut ⟨rfl, rfl, rfl, rfl, rfl, rfl, rfl, rfl, rfl, rfl, rfl, rfl, trivial⟩⟩
         ·have hr911 := if_n hb892 hr891
          refine drG 11 T4.mixed (by kernel_rfl) rfl ?_
          refine DF.det rfl (fun a w K hS hA hF => TG.pa hS hA (mv rfl rfl fin1)) ?_
          refine DF.det rfl (fun a w K hS hA hF => TG.pa hS hA (mv rfl rfl fin1)) ?_
          refine DF.det rfl (fun a w K hS hA hF => TG.pa hS hA (iaP Tryz.underlying86 Tryz.sizeOf3 rfl rfl rfl (by omega) (Nat.lt_of_lt_of_eq (lt_of hx890) hln819) fin1)) ?_
          refine DF.det rfl (fun a w K hS hA hF => TG.pa hS hA (ld Tryz.isAgg3 rfl rfl (sE 1 rfl (fun _ => rfl) hx890) rfl fin1)) ?_
          refine DF.det rfl (fun a w K hS hA hF => TG.pa hS hA (eqI rfl rfl rfl fin1)) ?_
          refine DF.det rfl (fun a w K hS hA hF => TG.pa hS hA (mv rfl rfl fin1)) ?_
          refine DF.det rfl (fun a w K hS hA hF => TG.pa hS hA (gF rfl rfl (decide_eq_false hb892) rfl fin1)) ?_
          refine DF.det rfl (fun a w K hS hA hF => TG.pa hS hA (gF rfl rfl (decide_eq_false hb892) rfl fin1)) ?_
          refine DF.det rfl (fun a w K hS hA hF => TG.pa hS hA (gF rfl rfl (decide_eq_false hb892) rfl fin1)) ?_
          refine DF.det rfl (fun a w K hS hA hF => TG.pa hS hA (gF rfl rfl (decide_eq_false hb892) rfl fin1)) ?_
          refine DF.det rfl (fun a w K hS hA hF => TG.pa hS hA (gF rfl rfl (decide_eq_false hb892) rfl fin1)) ?_
          refine DF.nil fun K912 hF => ?_
          refine gF rfl rfl (decide_eq_false hb892) rfl ?_
          refine pF rfl rfl (decide_eq_false hb892) rfl ?_
          refine on ?_
          obtain rfl := Option.some.inj hr911
          intro a w hS hA
          exact ⟨hS.selH [1, 2, 3, 4, 5] rfl, hA.cut ⟨rfl, rfl, rfl, rfl, rfl, rfl, rfl, rfl, rfl, rfl, rfl, rfl, trivial⟩⟩
        ·rintro a w ⟨hS, hA⟩
         refine TG.ap ?_ hS hA
         obtain ⟨t920, hx921, hr922⟩ := bd_some hr888
         refine jn (fun a w => St [] W H [K727, K460, K17, K14, H] [(4, Own.rows ad457 cap458 73 5 css459 s456.2.1), (2, Own.list (some ⟨b22, 0, none⟩) requests.length 4 1 encB (s456.2.2.1.set e642.toNat true)), (1, Own.list (some ⟨b21, 0, none⟩) requests.length 3 1 (encI .i64) t920)] w ∧ Has [] 98 a [(1, .slice ad_swaps swaps.length cap_swaps), (3, .slice (some p717) requests.length cap_requests), (4, .pointer (some q13)), (6, .pointer (some q16)), (9, .slice (some ⟨b21, 0, none⟩) ((List.replicate requests.length (0 : Int)).length) requests.length), (10, .slice (some ⟨b22, 0, none⟩) ((List.replicate requests.length false).length) requests.length), (11, .slice ad457 s456.2.1.length cap458), (12, .int .i64 (s456.1 : Int)), (13, .int .i64 e642), (15, .pointer (some q726)), (16, .int .i64 (s818.1 : Int))] ∧ t920.length = (List.replicate requests.length (0 : Int)).length) ?_ ?_
         ·refine cb rfl (fun hc924 => ?_) (fun hc924 => ?_)
          ·have hr925 := if_p hc924 hx921
           refine rg ?_
           refine mv rfl rfl ?_
           refine mv rfl rfl ?_
           obtain ⟨x926, hx927, hr928⟩ := bd_some hr925
           refine iaP Tryz.underlying86 Tryz.sizeOf3 rfl rfl rfl (by omega) (Nat.lt_of_lt_of_eq (lt_of hx927) hln819) ?_
           have hln929 : (s818.2.set e642.toNat 6).length = (List.replicate requests.length (0 : Int)).length := (lenS _ _ _).trans hln819
           refine stE 1 6 (q := ⟨b21, 0, none⟩) (j := e642.toNat) (size := 1) (cs := [.int .i64 6]) (off := 0) Tryz.sizeOf3 rfl rfl rfl (fun _ => rfl) hx927 rfl rfl rfl rfl rfl ?_
           refine on ?_
           obtain rfl := Option.some.inj hr928
           intro a w hS hA
           exact ⟨hS, hA.cut ⟨rfl, rfl, rfl, rfl, rfl, rfl, rfl, rfl, rfl, rfl, rfl, trivial⟩, hln929⟩
          ·have hr930 := if_f hc924 hx921
           refine sk ?_
           obtain rfl := Option.some.inj hr930
           intro a w hS hA
           exact ⟨hS, hA.cut ⟨rfl, rfl, rfl, rfl, rfl, rfl, rfl, rfl, rfl, rfl, rfl, trivial⟩, hln819⟩
         ·rintro a w ⟨hS, hA, hln923⟩
          refine TG.ap ?_ hS hA
          refine rg ?_
          refine mv rfl rfl ?_
          refine adI rfl rfl rfl (by omega) ?_
          refine av rfl rfl ?_
          refine on ?_
          obtain rfl := Option.some.inj hr922
          intro a w hS hA
          exact ⟨_, hz821, hS, hA.cut ⟨rfl, rfl, rfl, rfl, rfl, rfl, rfl, rfl, rfl, rfl, rfl, trivial⟩, hln923⟩
       ·have hr931 := if_n hc826 hr820
        refine xt rfl ?_
        obtain rfl := Option.some.inj hr931
        obtain rfl := Fin.out hz821
        intro a w hS hA
        exact ⟨hS, hA.cut ⟨rfl, rfl, rfl, rfl, rfl, rfl, rfl, rfl, rfl, rfl, trivial⟩, hln819⟩
     ·rintro a w ⟨hS, hA, hln817⟩
      refine TG.ap ?_ hS hA
      refine sq ?_
      refine rg ?_
      refine mv rfl rfl ?_
      refine mv rfl rfl ?_
      obtain ⟨x932, hx933, hr934⟩ := bd_some hr816
      refine iaP Tryz.underlying86 Tryz.sizeOf3 rfl rfl rfl (by omega) (Nat.lt_of_lt_of_eq (lt_of hx933) hln817) ?_
      refine ld Tryz.isAgg3 rfl rfl (sE 1 rfl (fun _ => rfl) hx933) rfl ?_
      refine eqI rfl rfl rfl ?_
      refine on ?_
      obtain ⟨t945, hx946, hr947⟩ := bd_some hr934
      refine jn (fun a w => ∃ (ad948 : Option Addr) (cap949 : Nat) (css950 : List (List Value)) (K951 : Hp), St [] W H [K951, K727, K460, K17, K14, H] [(4, Own.rows ad948 cap949 73 5 css950 t945), (2, Own.list (some ⟨b22, 0, none⟩) requests.length 4 1 encB (s456.2.2.1.set e642.toNat true)), (1, Own.list (some ⟨b21, 0, none⟩) requests.length 3 1 (encI .i64) e814)] w ∧ Has [] 98 a [(1, .slice ad_swaps swaps.length cap_swaps), (3, .slice (some p717) requests.length cap_requests), (4, .pointer (some q13)), (6, .pointer (some q16)), (9, .slice (some ⟨b21, 0, none⟩) ((List.replicate requests.length (0 : Int)).length) requests.length), (10, .slice (some ⟨b22, 0, none⟩) ((List.replicate requests.length false).length) requests.length), (11, .slice ad948 t945.length cap949), (12, .int .i64 (s456.1 : Int))] ∧ Rows (RRequest) 5 K951 css950 t945) ?_ ?_
      ·refine ci rfl (fun hc953 => ?_) (fun hc953 => ?_)
       ·have hr954 := if_p hc953 hx946
        refine rg ?_
        refine mv rfl rfl ?_
        refine ldA Tryz.isAgg73 Tryz.sizeOf73 rfl rfl (sS 0 rfl hK728) rfl ?_
        obtain ⟨hk955, hr956⟩ := chk_some hr954
        have := lenA s456.2.1 [x714]
        refine TG.pack (fun K => Rows (RRequest) 5 K (css459 ++ [[.int .i64 x714.by_, .int .i64 x714.minute, .int .i64 x714.from_, .int .i64 x714.cut, .slice ad723 x714.put_.length cap724]]) (s456.2.1 ++ [x714])) (fun H le => (hR461.mono (RRequest.mono) (le.at 1 rfl)).snoc rfl rfl (RRequest.mono _ _ _ _ (le.at 4 rfl) hr722)) fun K960 hR961 => ?_
        refine ap1R 4 [.int .i64 x714.by_, .int .i64 x714.minute, .int .i64 x714.from_, .int .i64 x714.cut, .slice ad723 x714.put_.length cap724] x714 (l := s456.2.1) (css := css459) T4.E69 rfl rfl rfl rfl rfl rfl rfl rfl rfl rfl rfl rfl hk955 fun ad957 cap958 u959 => ?_
        refine av rfl rfl ?_
        refine on ?_
        obtain rfl := Option.some.inj hr956
        intro a w hS hA
        exact ⟨ad957, cap958, (css459 ++ [[Value.int .i64 x714.by_, Value.int .i64 x714.minute, Value.int .i64 x714.from_, Value.int .i64 x714.cut, Value.slice ad723 x714.put_.length cap724]]), K960, hS, hA.cut ⟨rfl, rfl, rfl, rfl, rfl, rfl, rfl, rfl, trivial⟩, hR961⟩
       ·have hr962 := if_n hc953 hx946
        refine sk ?_
        obtain rfl := Option.some.inj hr962
        intro a w hS hA
        exact ⟨ad457, cap458, css459, K460, hS.selH [1, 0, 1, 2, 3, 4] rfl, hA.cut ⟨rfl, rfl, rfl, rfl, rfl, rfl, rfl, rfl, trivial⟩, hR461⟩
      ·rintro a w ⟨ad948, cap949, css950, K951, hS, hA, hR952⟩
       refine TG.ap ?_ hS hA
       refine rg ?_
       refine mv rfl rfl ?_
       refine adI rfl rfl rfl (by omega) ?_
       refine av rfl rfl ?_
       refine on ?_
       obtain rfl := Option.some.inj hr947
       intro a w hS hA
       exact ⟨_, hz465, ad948, cap949, css950, K951, hS.selH [0, 3, 4, 5] rfl, hA.cut ⟨rfl, rfl, rfl, rfl, rfl, rfl, rfl, rfl, trivial⟩, hR952, hln713, hln817⟩
   ·have hr963 := if_n hc470 hr464
    refine xt rfl ?_
    obtain rfl := Option.some.inj hr963
    obtain rfl := Fin.out hz465
    intro a w hS hA
    exact ⟨ad457, cap458, css459, K460, hS, hA.cut ⟨rfl, trivial⟩, hR461, hln462, hln463⟩
 ·rintro a w ⟨ad449, cap450, css451, K452, hS, hA, hR453, hln454, hln455⟩
  refine TG.ap ?_ hS hA
  refine sq ?_
  refine rg ?_
  refine mv rfl rfl ?_
  refine av rfl rfl ?_
  refine on ?_
  refine rt_ ?_
  refine TG.cut (L' := [(8, .slice (some ⟨b21, 0, none⟩) e446.2.2.length requests.length), (9, .slice (some ⟨b21, 0, none⟩) e446.2.2.length requests.length), (97, .slice (some ⟨b21, 0, none⟩) e446.2.2.length requests.length)]) ⟨(congrArg (fun (n : Nat) => some (Value.slice (some ⟨b21, 0, none⟩) n requests.length)) hln455.symm), (congrArg (fun (n : Nat) => some (Value.slice (some ⟨b21, 0, none⟩) n requests.length)) hln455.symm), (congrArg (fun (n : Nat) => some (Value.slice (some ⟨b21, 0, none⟩) n requests.length)) hln455.symm), trivial⟩ ?_
  obtain rfl := Option.some.inj hr448
  intro a w hS hA
  refine ret1 hA rfl rfl ?_
  exact ⟨⟨_, _, rfl, (hS.listOut 1 rfl (fun _ => rfl))⟩, hS.ext⟩

theorem w8 {W : World} {H : Hp} (hH : H.le (hp W)) (hg : Gv H) {cs_l_0 : List Value} (l_0 : Lexicon) (h_l_0 : (RLexicon) H cs_l_0 l_0) {ad_swaps : Option Addr} {cap_swaps : Nat} {swaps : List Swap} (h_swaps : Sl (Flat encSwap) 3 H ad_swaps cap_swaps swaps) {cs_r_2 : List Value} (r_2 : Report) (h_r_2 : (RReport) H cs_r_2 r_2) {ad_requests : Option Addr} {cap_requests : Nat} {requests : List Request} (h_requests : Sl (RRequest) 5 H ad_requests cap_requests requests) {r : Bool} (hr : m8 l_0 swaps r_2 requests = some r) : Calls Tryz.prog 8 [.agg cs_l_0.toArray, .slice ad_swaps swaps.length cap_swaps, .agg cs_r_2.toArray, .slice ad_requests requests.length cap_requests].toArray W (RetS W (.bool r)) := by
 have hh_l_0 := h_l_0
 obtain ⟨ad1, cap2, ad4, cap5, ad7, cap8, rfl, hl3, hl6, hl9⟩ := h_l_0
 have := hl3.len
 have := hl6.len
 have := hl9.len
 have := h_swaps.len
 have hh_r_2 := h_r_2
 obtain ⟨ad10, cap11, rfl, hl12⟩ := h_r_2
 have := hl12.len
 have := h_requests.len
 unfold m8 at hr
 refine enterG Tryz.func8 rfl Tryz.ntmps8 rfl hH ?_
 refine sq ?_
 refine rg ?_
 refine bI (cs := [.slice ad1 l_0.numbers.length cap2, .slice ad4 l_0.names.length cap5, .slice ad7 l_0.nots.length cap8]) rfl rfl rfl fun q13 K14 hK15 => ?_
 refine bI (cs := [.slice ad10 r_2.words.length cap11, .int .i64 r_2.out, .int .i64 r_2.within]) rfl rfl rfl fun q16 K17 hK18 => ?_
 refine av rfl rfl ?_
 refine on ?_
 refine sq ?_
 refine sq ?_
 obtain ⟨t28, hx29, hr30⟩ := bd_some hr
 refine jn (fun a w => St [] W H [K17, K14, H] [] w ∧ Has [] 102 a [(1, .slice ad_swaps swaps.length cap_swaps), (3, .slice ad_requests requests.length cap_requests), (4, .pointer (some q13)), (6, .pointer (some q16)), (24, .bool t28)]) ?_ ?_
 ·refine rg ?_
  refine ldA Tryz.isAgg26 Tryz.sizeOf26 rfl rfl (sS 1 rfl hK15) rfl ?_
  refine mv rfl rfl ?_
  obtain ⟨r31, hx32, hr33⟩ := bd_some hx29
  refine clS Tryz.call15 rfl rfl rfl rfl (fun w H hH le => w15 hH l_0 (RLexicon.mono _ _ _ _ (le.at 2 rfl) hh_l_0) (h_swaps.mono (Flat.mono _) (le.at 2 rfl)) hx32) ?_
  refine nt rfl rfl ?_
  refine mv rfl rfl ?_
  rcases Bool.eq_false_or_eq_true (r31) with hb34 | hb34
  ·have hr35 := if_p hb34 hr33
   refine gN rfl rfl (congrArg not (hb34)) ?_
   refine ldA Tryz.isAgg68 Tryz.sizeOf68 rfl rfl (sS 0 rfl hK18) rfl ?_
   refine gN rfl rfl (congrArg not (hb34)) ?_
   refine mv rfl rfl ?_
   refine gN rfl rfl (congrArg not (hb34)) ?_
   obtain ⟨r36, hx37, hr38⟩ := bd_some hr35
   refine clS Tryz.call35 rfl rfl rfl rfl (fun w H hH le => w35 hH r_2 (RReport.mono _ _ _ _ (le.at 2 rfl) hh_r_2) (h_requests.mono (RRequest.mono) (le.at 2 rfl)) hx37) ?_
   refine gN rfl rfl (congrArg not (hb34)) ?_
   refine nt rfl rfl ?_
   refine pF rfl rfl (congrArg not (hb34)) rfl ?_
   refine on ?_
   obtain rfl := Option.some.inj hr38
   intro a w hS hA
   exact ⟨hS, hA.cut ⟨rfl, rfl, rfl, rfl, rfl, trivial⟩⟩
  ·have hr39 := if_f hb34 hr33
   refine gF rfl rfl (congrArg not (hb34)) rfl ?_
   refine gF rfl rfl (congrArg not (hb34)) rfl ?_
   refine gF rfl rfl (congrArg not (hb34)) rfl ?_
   refine gF rfl rfl (congrArg not (hb34)) rfl ?_
   refine pT rfl rfl (congrArg not (hb34)) rfl ?_
   refine on ?_
   obtain rfl := Option.some.inj hr39
   intro a w hS hA
   exact ⟨hS, hA.cut ⟨rfl, rfl, rfl, rfl, rfl, trivial⟩⟩
 ·rintro a w ⟨hS, hA⟩
  refine TG.ap ?_ hS hA
  refine cb rfl (fun hc46 => ?_) (fun hc46 => ?_)
  ·have hr47 := if_p hc46 hr30
   refine sq ?_
   refine rg ?_
   obtain ⟨r48, hx49, hr50⟩ := bd_some hr47
   refine clS Tryz.call17 rfl rfl rfl rfl (fun w H hH le => w17 hH (hg.mono (le.at 2 rfl))  hx49) ?_
   refine av rfl rfl ?_
   refine on ?_
   refine rt_ ?_
   obtain rfl := Option.some.inj hr50
   intro a w hS hA
   refine ret1 hA rfl rfl ?_
   exact ⟨rfl, hS.ext⟩
  ·have hr51 := if_f hc46 hr30
   refine sk ?_
   refine sq ?_
   refine rg ?_
   refine ldA Tryz.isAgg68 Tryz.sizeOf68 rfl rfl (sS 0 rfl hK18) rfl ?_
   obtain ⟨r52, hx53, hr54⟩ := bd_some hr51
   refine clK Tryz.call31 rfl rfl rfl rfl (fun w H hH le => w31 hH r_2 (RReport.mono _ _ _ _ (le.at 2 rfl) hh_r_2) hx53) ?_
   rintro v_ K55 ⟨cs56, rfl, hr57⟩
   have hr58 := hr57
   obtain ⟨ad59, cap60, rfl, hl61⟩ := hr57
   have := hl61.len
   obtain ⟨r62, hx63, hr64⟩ := bd_some hr54
   refine clS Tryz.call36 rfl rfl rfl rfl (fun w H hH le => w36 hH r52 (RReport.mono _ _ _ _ (le.at 0 rfl) hr58) hx63) ?_
   refine av rfl rfl ?_
   refine on ?_
   refine sq ?_
   obtain ⟨r65, hx66, hr67⟩ := bd_some hr64
   obtain ⟨r73, hx74, hr75⟩ := bd_some hr67
   obtain ⟨r88, hx89, hr90⟩ := bd_some hr75
   obtain ⟨r98, hx99, hr100⟩ := bd_some hr90
   refine drG 13 T4.mixed (by kernel_rfl) rfl ?_
   refine DF.det rfl (fun a w K hS hA hF => TG.pa hS hA (ldA Tryz.isAgg26 Tryz.sizeOf26 rfl rfl (sS 3 rfl hK15) rfl fin1)) ?_
   refine DF.und (α := List Value) [] (fun q => .agg q.toArray) (fun (q : List Value) K => (RLexicon) K q r65) (fun _ _ _ h x => RLexicon.mono _ _ _ _ h x) (by kernel_rfl) rfl (fun a w K hS hA hF => TG.pa hS hA (clK Tryz.call19 rfl rfl rfl rfl (fun w H hH le => w19 hH l_0 (RLexicon.mono _ _ _ _ (le.at 4 rfl) hh_l_0) hx66) (by
     rintro v_ K68 ⟨cs69, rfl, hr70⟩
     exact finU (f := fun q => .agg q.toArray) (G := (fun (q : List Value) K => (RLexicon) K q r65)) _ (fun _ _ _ h x => RLexicon.mono _ _ _ _ h x) hr70))) fun cs72 => ?_
   refine DF.det rfl (fun a w K hS hA hF => TG.pa hS hA (mv rfl rfl fin1)) ?_
   refine DF.und (α := Option Addr × Nat) (none, 0) (fun q => .slice q.1 r73.length q.2) (fun (q : Option Addr × Nat) K => Sl (Flat encSwap) 3 K q.1 q.2 r73) (fun _ _ _ h x => x.mono (Flat.mono _) h) (by kernel_rfl) rfl (fun a w K hS hA hF => TG.pa hS hA (clK Tryz.call20 rfl rfl rfl rfl (fun w H hH le => w20 hH (h_swaps.mono (Flat.mono _) (le.at 4 rfl)) hx74) (by
     rintro v_ K76 ⟨ad77, cap78, rfl, hl79⟩
     exact finU (f := fun q => .slice q.1 r73.length q.2) (G := (fun (q : Option Addr × Nat) K => Sl (Flat encSwap) 3 K q.1 q.2 r73)) (_, _) (fun _ _ _ h x => x.mono (Flat.mono _) h) hl79))) ?_
   rintro ⟨ad81, cap82⟩
   refine DF.det rfl (fun a w K hS hA hF => TG.pa hS hA (ldA Tryz.isAgg68 Tryz.sizeOf68 rfl rfl (sS 2 rfl hK18) rfl fin1)) ?_
   refine DF.und (α := List Value) [] (fun q => .agg q.toArray) (fun (q : List Value) K => (RReport) K q r52) (fun _ _ _ h x => RReport.mono _ _ _ _ h x) (by kernel_rfl) rfl (fun a w K hS hA hF => TG.pa hS hA (clK Tryz.call31 rfl rfl rfl rfl (fun w H hH le => w31 hH r_2 (RReport.mono _ _ _ _ (le.at 4 rfl) hh_r_2) hx53) (by
     rintro v_ K83 ⟨cs84, rfl, hr85⟩
     exact finU (f := fun q => .agg q.toArray) (G := (fun (q : List Value) K => (RReport) K q r52)) _ (fun _ _ _ h x => RReport.mono _ _ _ _ h x) hr85))) fun cs87 => ?_
   refine DF.det rfl (fun a w K hS hA hF => TG.pa hS hA (mv rfl rfl fin1)) ?_
   refine DF.und (α := Option Addr × Nat) (none, 0) (fun q => .slice q.1 r88.length q.2) (fun (q : Option Addr × Nat) K => Sl (RRequest) 5 K q.1 q.2 r88) (fun _ _ _ h x => x.mono (RRequest.mono) h) (by kernel_rfl) rfl (fun a w K hS hA hF => TG.pa hS hA (clK Tryz.call32 rfl rfl rfl rfl (fun w H hH le => w32 hH (h_requests.mono (RRequest.mono) (le.at 4 rfl)) hx89) (by
     rintro v_ K91 ⟨ad92, cap93, rfl, hl94⟩
     exact finU (f := fun q => .slice q.1 r88.length q.2) (G := (fun (q : Option Addr × Nat) K => Sl (RRequest) 5 K q.1 q.2 r88)) (_, _) (fun _ _ _ h x => x.mono (RRequest.mono) h) hl94))) ?_
   rintro ⟨ad96, cap97⟩
   refine DF.und (α := Option Addr × Nat) (none, 0) (fun q => .tuple [.slice q.1 r98.1.length q.2, .int .i64 r98.2].toArray) (fun (q : Option Addr × Nat) K => Sl (Flat (encI .i64)) 1 K q.1 q.2 r98.1) (fun _ _ _ h x => x.mono (Flat.mono _) h) (by kernel_rfl) rfl (fun a w K hS hA hF => TG.pa hS hA (clK Tryz.call29 rfl rfl rfl rfl (fun w H hH le => w29 hH (hg.mono (le.at 4 rfl)) r65 (RLexicon.mono _ _ _ _ (le.at 0 rfl) (hF.2.2.2.1 rfl)) ((hF.2.2.1 rfl).mono (Flat.mono _) (le.at 0 rfl)) r52 (RReport.mono _ _ _ _ (le.at 0 rfl) (hF.2.1 rfl)) ((hF.1 rfl).mono (RRequest.mono) (le.at 0 rfl)) hx99) (by
     rintro v_ K101 ⟨ad102, cap103, rfl, hl104⟩
     exact finU (f := fun q => .tuple [.slice q.1 r98.1.length q.2, .int .i64 r98.2].toArray) (G := (fun (q : Option Addr × Nat) K => Sl (Flat (encI .i64)) 1 K q.1 q.2 r98.1)) (ad102, cap103) (fun _ _ _ h x => x.mono (Flat.mono _) h) hl104))) ?_
   rintro ⟨ad106, cap107⟩
   refine DF.und () (fun _ => .tuple [.slice ad106 r98.1.length cap107, .int .i64 r98.2].toArray) (fun _ K => Sl (Flat (encI .i64)) 1 K ad106 cap107 r98.1) (fun _ _ _ h x => x.mono (Flat.mono _) h) (by kernel_rfl) rfl (fun a w K hS hA hF => TG.pa hS hA (mv rfl rfl (finF (f := fun _ => .tuple [.slice ad106 r98.1.length cap107, .int .i64 r98.2].toArray) (G := fun _ K => Sl (Flat (encI .i64)) 1 K ad106 cap107 r98.1) () (hF.1 rfl)))) fun _ => ?_
   refine DF.und () (fun _ => .slice ad106 r98.1.length cap107) (fun _ K => Sl (Flat (encI .i64)) 1 K ad106 cap107 r98.1) (fun _ _ _ h x => x.mono (Flat.mono _) h) (by kernel_rfl) rfl (fun a w K hS hA hF => TG.pa hS hA (ex rfl rfl rfl (finF (f := fun _ => .slice ad106 r98.1.length cap107) (G := fun _ K => Sl (Flat (encI .i64)) 1 K ad106 cap107 r98.1) () (hF.1 rfl)))) fun _ => ?_
   refine DF.det rfl (fun a w K hS hA hF => TG.pa hS hA (ex rfl rfl rfl fin1)) ?_
   refine DF.und () (fun _ => .slice ad106 r98.1.length cap107) (fun _ K => Sl (Flat (encI .i64)) 1 K ad106 cap107 r98.1) (fun _ _ _ h x => x.mono (Flat.mono _) h) (by kernel_rfl) rfl (fun a w K hS hA hF => TG.pa hS hA (av rfl rfl (finF (f := fun _ => .slice ad106 r98.1.length cap107) (G := fun _ K => Sl (Flat (encI .i64)) 1 K ad106 cap107 r98.1) () (hF.1 rfl)))) fun _ => ?_
   refine DF.nil fun K111 hF => ?_
   obtain ⟨hu110, hu109, hu108, hu105, hu95, hu86, hu80, hu71, _⟩ := hF
   have hr112 := hu71
   obtain ⟨ad113, cap114, ad116, cap117, ad119, cap120, rfl, hl115, hl118, hl121⟩ := hu71
   have := hl115.len
   have := hl118.len
   have := hl121.len
   have := hu80.len
   have hr122 := hu86
   obtain ⟨ad123, cap124, rfl, hl125⟩ := hu86
   have := hl125.len
   have := hu95.len
   have := hu105.len
   refine av rfl rfl ?_
   refine on ?_
   refine sq ?_
   refine sq ?_
   obtain ⟨t135, hx136, hr137⟩ := bd_some hr100
   refine jn (fun a w => St [] W H [K111, K55, K17, K14, H] [] w ∧ Has [] 102 a [(1, .slice ad_swaps swaps.length cap_swaps), (3, .slice ad_requests requests.length cap_requests), (4, .pointer (some q13)), (6, .pointer (some q16)), (10, .slice ad106 r98.1.length cap107), (11, .int .i64 r98.2), (53, .bool t135)]) ?_ ?_
   ·refine rg ?_
    refine mv rfl rfl ?_
    refine eqI rfl rfl rfl ?_
    refine ldA Tryz.isAgg68 Tryz.sizeOf68 rfl rfl (sS 2 rfl hK18) rfl ?_
    obtain ⟨r138, hx139, hr140⟩ := bd_some hx136
    refine clS Tryz.call37 rfl rfl rfl rfl (fun w H hH le => w37 hH r_2 (RReport.mono _ _ _ _ (le.at 4 rfl) hh_r_2) hx139) ?_
    refine neB Tryz.underlying4 rfl rfl rfl ?_
    refine mv rfl rfl ?_
    rcases Bool.eq_false_or_eq_true (decide (r62 = 0) == r138) with hb141 | hb141
    ·have hr142 := if_p hb141 hr140
     refine gN rfl rfl (congrArg not (hb141)) ?_
     refine mv rfl rfl ?_
     refine gN rfl rfl (congrArg not (hb141)) ?_
     refine neI rfl rfl rfl ?_
     refine gN rfl rfl (congrArg not (hb141)) ?_
     refine mv rfl rfl ?_
     by_cases hb143 : r62 ≠ 0
     ·have hr144 := if_p hb143 hr142
      refine gN rfl rfl (decide_eq_true hb143) ?_
      refine mv rfl rfl ?_
      refine gN rfl rfl (decide_eq_true hb143) ?_
      refine neI rfl rfl rfl ?_
      refine gN rfl rfl (congrArg not (hb141)) ?_
      refine pT rfl rfl (decide_eq_true hb143) rfl ?_
      refine pF rfl rfl (congrArg not (hb141)) rfl ?_
      refine on ?_
      obtain rfl := Option.some.inj hr144
      intro a w hS hA
      exact ⟨hS, hA.cut ⟨rfl, rfl, rfl, rfl, rfl, rfl, rfl, trivial⟩⟩
     ·have hr145 := if_n hb143 hr142
      refine gF rfl rfl (decide_eq_false hb143) rfl ?_
      refine gF rfl rfl (decide_eq_false hb143) rfl ?_
      refine gN rfl rfl (congrArg not (hb141)) ?_
      refine pF rfl rfl (decide_eq_false hb143) rfl ?_
      refine pF rfl rfl (congrArg not (hb141)) rfl ?_
      refine on ?_
      obtain rfl := Option.some.inj hr145
      intro a w hS hA
      exact ⟨hS, hA.cut ⟨rfl, rfl, rfl, rfl, rfl, rfl, rfl, trivial⟩⟩
    ·have hr146 := if_f hb141 hr140
     refine gF rfl rfl (congrArg not (hb141)) rfl ?_
     refine gF rfl rfl (congrArg not (hb141)) rfl ?_
     refine gF rfl rfl (congrArg not (hb141)) rfl ?_
     refine gU rfl rfl rfl ?_
     refine gU rfl rfl rfl ?_
     refine gF rfl rfl (congrArg not (hb141)) rfl ?_
     refine pT rfl rfl (congrArg not (hb141)) rfl ?_
     refine on ?_
     obtain rfl := Option.some.inj hr146
     intro a w hS hA
     exact ⟨hS, hA.cut ⟨rfl, rfl, rfl, rfl, rfl, rfl, rfl, trivial⟩⟩
   ·rintro a w ⟨hS, hA⟩
    refine TG.ap ?_ hS hA
    refine cb rfl (fun hc150 => ?_) (fun hc150 => ?_)
    ·have hr151 := if_p hc150 hr137
     refine sq ?_
     refine rg ?_
     refine av rfl rfl ?_
     refine on ?_
     refine rt_ ?_
     obtain rfl := Option.some.inj hr151
     intro a w hS hA
     refine ret1 hA rfl rfl ?_
     exact ⟨rfl, hS.ext⟩
    ·have hr152 := if_f hc150 hr137
     refine sk ?_
     refine sq ?_
     refine sq ?_
     refine rg ?_
     refine ldA Tryz.isAgg26 Tryz.sizeOf26 rfl rfl (sS 3 rfl hK15) rfl ?_
     refine mv rfl rfl ?_
     refine ldA Tryz.isAgg68 Tryz.sizeOf68 rfl rfl (sS 2 rfl hK18) rfl ?_
     refine mv rfl rfl ?_
     obtain ⟨r153, hx154, hr155⟩ := bd_some hr152
     refine clS Tryz.call38 rfl rfl rfl rfl (fun w H hH le => w38 hH l_0 (RLexicon.mono _ _ _ _ (le.at 4 rfl) hh_l_0) (h_swaps.mono (Flat.mono _) (le.at 4 rfl)) r_2 (RReport.mono _ _ _ _ (le.at 4 rfl) hh_r_2) (h_requests.mono (RRequest.mono) (le.at 4 rfl)) hx154) ?_
     refine av rfl rfl ?_
     refine on ?_
     refine sq ?_
     refine rg ?_
     refine mv rfl rfl ?_
     refine neI rfl rfl rfl ?_
     refine on ?_
     refine ci rfl (fun hc169 => ?_) (fun hc169 => ?_)
     ·have hr170 := if_p hc169 hr155
      refine sq ?_
      obtain ⟨t180, hx181, hr182⟩ := bd_some hr170
      refine jn (fun a w => St [] W H [K111, K55, K17, K14, H] [] w ∧ Has [] 102 a [(8, .bool t180)]) ?_ ?_
      ·refine rg ?_
       refine mv rfl rfl ?_
       refine mv rfl rfl ?_
       refine eqI rfl rfl rfl ?_
       refine mv rfl rfl ?_
       by_cases hb183 : r98.2 = r153
       ·have hr184 := if_p hb183 hx181
        refine gN rfl rfl (decide_eq_true hb183) ?_
        refine mv rfl rfl ?_
        refine gN rfl rfl (decide_eq_true hb183) ?_
        refine lnL Tryz.underlying59 rfl rfl ?_
        refine gN rfl rfl (decide_eq_true hb183) ?_
        refine eqI rfl rfl rfl ?_
        refine pT rfl rfl (decide_eq_true hb183) rfl ?_
        refine mv rfl rfl ?_
        by_cases hb185 : (r98.1.length : Int) = 0
        ·have hr186 := if_p hb185 hr184
         refine gN rfl rfl (decide_eq_true hb185) ?_
         obtain ⟨r187, hx188, hr189⟩ := bd_some hr186
         refine clS Tryz.call17 rfl rfl rfl rfl (fun w H hH le => w17 hH (hg.mono (le.at 4 rfl))  hx188) ?_
         refine pT rfl rfl (decide_eq_true hb185) rfl ?_
         refine av rfl rfl ?_
         refine on ?_
         obtain rfl := Option.some.inj hr189
         intro a w hS hA
         exact ⟨hS, hA.cut ⟨rfl, trivial⟩⟩
        ·have hr190 := if_n hb185 hr184
         refine gF rfl rfl (decide_eq_false hb185) rfl ?_
         refine pF rfl rfl (decide_eq_false hb185) rfl ?_
         refine av rfl rfl ?_
         refine on ?_
         obtain rfl := Option.some.inj hr190
         intro a w hS hA
         exact ⟨hS, hA.cut ⟨rfl, trivial⟩⟩
       ·have hr191 := if_n hb183 hx181
        refine gF rfl rfl (decide_eq_false hb183) rfl ?_
        refine gF rfl rfl (decide_eq_false hb183) rfl ?_
        refine gF rfl rfl (decide_eq_false hb183) rfl ?_
        refine pF rfl rfl (decide_eq_false hb183) rfl ?_
        refine mv rfl rfl ?_
        refine gF rfl rfl rfl rfl ?_
        refine pF rfl rfl rfl rfl ?_
        refine av rfl rfl ?_
        refine on ?_
        obtain rfl := Option.some.inj hr191
        intro a w hS hA
        exact ⟨hS, hA.cut ⟨rfl, trivial⟩⟩
      ·rintro a w ⟨hS, hA⟩
       refine TG.ap ?_ hS hA
       refine rt_ ?_
       obtain rfl := Option.some.inj hr182
       intro a w hS hA
       refine ret1 hA rfl rfl ?_
       exact ⟨rfl, hS.ext⟩
     ·have hr192 := if_n hc169 hr155
      refine sk ?_
      refine sq ?_
      refine rg ?_
      refine ldA Tryz.isAgg26 Tryz.sizeOf26 rfl rfl (sS 3 rfl hK15) rfl ?_
      refine mv rfl rfl ?_
      refine ldA Tryz.isAgg68 Tryz.sizeOf68 rfl rfl (sS 2 rfl hK18) rfl ?_
      refine mv rfl rfl ?_
      obtain ⟨r193, hx194, hr195⟩ := bd_some hr192
      refine clK Tryz.call39 rfl rfl rfl rfl (fun w H hH le => w39 hH l_0 (RLexicon.mono _ _ _ _ (le.at 4 rfl) hh_l_0) (h_swaps.mono (Flat.mono _) (le.at 4 rfl)) r_2 (RReport.mono _ _ _ _ (le.at 4 rfl) hh_r_2) (h_requests.mono (RRequest.mono) (le.at 4 rfl)) hx194) ?_
      rintro v_ K196 ⟨ad197, cap198, rfl, hl199⟩
      have := hl199.len
      refine av rfl rfl ?_
      refine on ?_
      refine sq ?_
      refine sq ?_
      obtain ⟨t203, hx204, hr205⟩ := bd_some hr195
      refine jn (fun a w => St [] W H [K196, K111, K55, K17, K14, H] [] w ∧ Has [] 102 a [(10, .slice ad106 r98.1.length cap107), (13, .slice ad197 r193.length cap198), (85, .bool t203)]) ?_ ?_
      ·refine rg ?_
       refine mv rfl rfl ?_
       refine neI rfl rfl rfl ?_
       refine mv rfl rfl ?_
       by_cases hb206 : r98.2 ≠ 0
       ·have hr207 := if_p hb206 hx204
        refine gF rfl rfl (decide_eq_true hb206) rfl ?_
        refine gF rfl rfl (decide_eq_true hb206) rfl ?_
        refine gF rfl rfl (decide_eq_true hb206) rfl ?_
        refine gF rfl rfl (decide_eq_true hb206) rfl ?_
        refine gF rfl rfl (decide_eq_true hb206) rfl ?_
        refine pT rfl rfl (decide_eq_true hb206) rfl ?_
        refine on ?_
        obtain rfl := Option.some.inj hr207
        intro a w hS hA
        exact ⟨hS, hA.cut ⟨rfl, rfl, rfl, trivial⟩⟩
       ·have hr208 := if_n hb206 hx204
        refine gN rfl rfl (decide_eq_false hb206) ?_
        refine mv rfl rfl ?_
        refine gN rfl rfl (decide_eq_false hb206) ?_
        refine lnL Tryz.underlying59 rfl rfl ?_
        refine gN rfl rfl (decide_eq_false hb206) ?_
        refine mv rfl rfl ?_
        refine gN rfl rfl (decide_eq_false hb206) ?_
        refine lnL Tryz.underlying86 rfl rfl ?_
        refine gN rfl rfl (decide_eq_false hb206) ?_
        refine neI rfl rfl rfl ?_
        refine pF rfl rfl (decide_eq_false hb206) rfl ?_
        refine on ?_
        obtain rfl := Option.some.inj hr208
        intro a w hS hA
        exact ⟨hS, hA.cut ⟨rfl, rfl, rfl, trivial⟩⟩
      ·rintro a w ⟨hS, hA⟩
       refine TG.ap ?_ hS hA
       refine cb rfl (fun hc212 => ?_) (fun hc212 => ?_)
       ·have hr213 := if_p hc212 hr205
        refine sq ?_
        refine rg ?_
        refine av rfl rfl ?_
        refine on ?_
        refine rt_ ?_
        obtain rfl := Option.some.inj hr213
        intro a w hS hA
        refine ret1 hA rfl rfl ?_
        exact ⟨rfl, hS.ext⟩
       ·have hr214 := if_f hc212 hr205
        refine sk ?_
        refine sq ?_
        refine sq ?_
        refine rg ?_
        refine av rfl rfl ?_
        refine on ?_
        obtain ⟨e239, hl240, hr241⟩ := bd_some hr214
        refine jn (fun a w => ∃ t242, e239 = .inl t242 ∧ St [] W H [K196, K111, K55, K17, K14, H] [] w ∧ Has [] 102 a []) ?_ ?_
        ·refine bk ?_
         refine lp hl240 (fun s243 a w => St [] W H [K196, K111, K55, K17, K14, H] [] w ∧ Has [] 102 a [(10, .slice ad106 r98.1.length cap107), (13, .slice ad197 r193.length cap198), (14, .int .i64 (s243 : Int))]) ?_ ?_
         ·intro a w hS hA
          exact ⟨hS, hA.cut ⟨rfl, rfl, rfl, trivial⟩⟩
         ·rintro j s243 y246 hr244 hz245 a w ⟨hS, hA⟩
          refine TG.ap ?_ hS hA
          unfold m8_1 at hr244
          refine sq ?_
          refine sq ?_
          refine rg ?_
          refine mv rfl rfl ?_
          refine mv rfl rfl ?_
          refine lnL Tryz.underlying86 rfl rfl ?_
          refine ltI rfl rfl rfl ?_
          refine on ?_
          refine ci rfl (fun hc250 => ?_) (fun hc250 => ?_)
          ·have hr251 := if_p hc250 hr244
           refine sk ?_
           refine sq ?_
           refine bk ?_
           refine sq ?_
           obtain ⟨x272, hx273, hr274⟩ := bd_some hr251
           obtain ⟨p275, rfl⟩ := hu110.adr hx273
           obtain ⟨cs276, hcs277, hq278, hr279⟩ := hu110.at hx273
           obtain rfl := hr279
           obtain ⟨x280, hx281, hr282⟩ := bd_some hr274
           obtain ⟨p283, rfl⟩ := hl199.adr hx281
           obtain ⟨cs284, hcs285, hq286, hr287⟩ := hl199.at hx281
           obtain rfl := hr287
           refine drG 8 T4.mixed (by kernel_rfl) rfl ?_
           refine DF.det rfl (fun a w K hS hA hF => TG.pa hS hA (mv rfl rfl fin1)) ?_
           refine DF.det rfl (fun a w K hS hA hF => TG.pa hS hA (mv rfl rfl fin1)) ?_
           refine DF.det rfl (fun a w K hS hA hF => TG.pa hS hA (iaP Tryz.underlying59 Tryz.sizeOf31 rfl rfl rfl rfl (lt_of hx273) fin1)) ?_
           refine DF.det rfl (fun a w K hS hA hF => TG.pa hS hA (ld Tryz.isAgg31 rfl rfl (sS 2 rfl hq278) rfl fin1)) ?_
           refine DF.det rfl (fun a w K hS hA hF => TG.pa hS hA (mv rfl rfl fin1)) ?_
           refine DF.det rfl (fun a w K hS hA hF => TG.pa hS hA (mv rfl rfl fin1)) ?_
           refine DF.det rfl (fun a w K hS hA hF => TG.pa hS hA (iaP Tryz.underlying86 Tryz.sizeOf3 rfl rfl rfl rfl (lt_of hx281) fin1)) ?_
           refine DF.det rfl (fun a w K hS hA hF => TG.pa hS hA (ld Tryz.isAgg3 rfl rfl (sS 1 rfl hq286) rfl fin1)) ?_
           refine DF.nil fun K288 hF => ?_
           refine neI rfl rfl rfl ?_
           refine on ?_
           refine ci rfl (fun hc292 => ?_) (fun hc292 => ?_)
           ·have hr293 := if_p hc292 hr282
            refine sq ?_
            refine rg ?_
            refine av rfl rfl ?_
            refine on ?_
            refine rt_ ?_
            obtain rfl := Option.some.inj hr293
            obtain rfl := Fin.out hz245
            obtain rfl := Option.some.inj hr241
            intro a w hS hA
            refine ret1 hA rfl rfl ?_
            exact ⟨rfl, hS.ext⟩
           ·have hr294 := if_n hc292 hr282
            refine sk ?_
            refine rg ?_
            refine mv rfl rfl ?_
            refine adI rfl rfl rfl (by omega) ?_
            refine av rfl rfl ?_
            refine on ?_
            obtain rfl := Option.some.inj hr294
            intro a w hS hA
            exact ⟨_, hz245, hS.selH [1, 2, 3, 4, 5, 6] rfl, hA.cut ⟨rfl, rfl, rfl, trivial⟩⟩
          ·have hr295 := if_n hc250 hr244
           refine xt rfl ?_
           obtain rfl := Option.some.inj hr295
           obtain rfl := Fin.out hz245
           intro a w hS hA
           exact ⟨_, rfl, hS, hA.cut trivial⟩
        ·rintro a w ⟨t242, rfl, hS, hA⟩
         refine TG.ap ?_ hS hA
         refine sq ?_
         refine rg ?_
         obtain ⟨r296, hx297, hr298⟩ := bd_some hr241
         refine clS Tryz.call17 rfl rfl rfl rfl (fun w H hH le => w17 hH (hg.mono (le.at 5 rfl))  hx297) ?_
         refine av rfl rfl ?_
         refine on ?_
         refine rt_ ?_
         obtain rfl := Option.some.inj hr298
         intro a w hS hA
         refine ret1 hA rfl rfl ?_
         exact ⟨rfl, hS.ext⟩

end T4
