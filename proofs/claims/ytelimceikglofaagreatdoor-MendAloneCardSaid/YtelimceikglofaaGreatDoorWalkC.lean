/-
 Walks of functions of layer 4: each call comes to what the model says. Printed by a program of ours.
-/
import Derived.Test.YtelimceikglofaaGreatDoorWalkB
set_option linter.all false
set_option maxHeartbeats 4000000
namespace T4
open Go Go.Proofs Pk
theorem w22 {W : World} {H : Hp} (hH : H.le (hp W)) {cs_l_0 : List Value} (l_0 : Lexicon) (h_l_0 : (RLexicon) H cs_l_0 l_0) {ad_swaps : Option Addr} {cap_swaps : Nat} {swaps : List Swap} (h_swaps : Sl (Flat encSwap) 3 H ad_swaps cap_swaps swaps) {r : Int} (hr : m22 l_0 swaps = some r) : Calls Tryz.prog 22 [.agg cs_l_0.toArray, .slice ad_swaps swaps.length cap_swaps].toArray W (RetS W (.int .i64 r)) := by
 have hh_l_0 := h_l_0
 obtain ⟨ad1, cap2, ad4, cap5, ad7, cap8, rfl, hl3, hl6, hl9⟩ := h_l_0
 have := hl3.len
 have := hl6.len
 have := hl9.len
 have := h_swaps.len
 unfold m22 at hr
 refine enterG Tryz.func22 rfl Tryz.ntmps22 rfl hH ?_
 refine sq ?_
 refine rg ?_
 refine bI (cs := [.slice ad1 l_0.numbers.length cap2, .slice ad4 l_0.names.length cap5, .slice ad7 l_0.nots.length cap8]) rfl rfl rfl fun q10 K11 hK12 => ?_
 refine av rfl rfl ?_
 refine on ?_
 refine sq ?_
 refine sq ?_
 refine rg ?_
 refine ldA Tryz.isAgg26 Tryz.sizeOf26 rfl rfl (sS 0 rfl hK12) rfl ?_
 obtain ⟨r13, hx14, hr15⟩ := bd_some hr
 refine clS Tryz.call34 rfl rfl rfl rfl (fun w H hH le => w34 hH l_0 (RLexicon.mono _ _ _ _ (le.at 1 rfl) hh_l_0) hx14) ?_
 refine av rfl rfl ?_
 refine on ?_
 refine sq ?_
 refine rg ?_
 refine mv rfl rfl ?_
 refine neI rfl rfl rfl ?_
 refine on ?_
 refine ci rfl (fun hc19 => ?_) (fun hc19 => ?_)
 ·have hr20 := if_p hc19 hr15
  refine sq ?_
  refine rg ?_
  refine mv rfl rfl ?_
  refine av rfl rfl ?_
  refine on ?_
  refine rt_ ?_
  obtain rfl := Option.some.inj hr20
  intro a w hS hA
  refine ret1 hA rfl rfl ?_
  exact ⟨rfl, hS.ext⟩
 ·have hr21 := if_n hc19 hr15
  refine sk ?_
  refine sq ?_
  refine rg ?_
  refine mv rfl rfl ?_
  obtain ⟨r22, hx23, hr24⟩ := bd_some hr21
  refine clS Tryz.call27 rfl rfl rfl rfl (fun w H hH le => w27 hH (h_swaps.mono (Flat.mono _) (le.at 1 rfl)) hx23) ?_
  refine av rfl rfl ?_
  refine on ?_
  refine rt_ ?_
  obtain rfl := Option.some.inj hr24
  intro a w hS hA
  refine ret1 hA rfl rfl ?_
  exact ⟨rfl, hS.ext⟩

theorem w35 {W : World} {H : Hp} (hH : H.le (hp W)) {cs_r_0 : List Value} (r_0 : Report) (h_r_0 : (RReport) H cs_r_0 r_0) {ad_requests : Option Addr} {cap_requests : Nat} {requests : List Request} (h_requests : Sl (RRequest) 5 H ad_requests cap_requests requests) {r : Bool} (hr : m35 r_0 requests = some r) : Calls Tryz.prog 35 [.agg cs_r_0.toArray, .slice ad_requests requests.length cap_requests].toArray W (RetS W (.bool r)) := by
 have hh_r_0 := h_r_0
 obtain ⟨ad1, cap2, rfl, hl3⟩ := h_r_0
 have := hl3.len
 have := h_requests.len
 unfold m35 at hr
 refine enterG Tryz.func35 rfl Tryz.ntmps35 rfl hH ?_
 refine sq ?_
 refine rg ?_
 refine bI (cs := [.slice ad1 r_0.words.length cap2, .int .i64 r_0.out, .int .i64 r_0.within]) rfl rfl rfl fun q4 K5 hK6 => ?_
 refine av rfl rfl ?_
 refine on ?_
 refine sq ?_
 refine sq ?_
 refine rg ?_
 refine av rfl rfl ?_
 refine on ?_
 obtain ⟨e28, hl29, hr30⟩ := bd_some hr
 refine jn (fun a w => ∃ t31, e28 = .inl t31 ∧ St [] W H [K5, H] [] w ∧ Has [] 52 a [(1, .slice ad_requests requests.length cap_requests), (2, .pointer (some q4))]) ?_ ?_
 ·refine bk ?_
  refine lp hl29 (fun s32 a w => St [] W H [K5, H] [] w ∧ Has [] 52 a [(1, .slice ad_requests requests.length cap_requests), (2, .pointer (some q4)), (5, .int .i64 (s32 : Int))]) ?_ ?_
  ·intro a w hS hA
   exact ⟨hS, hA.cut ⟨rfl, rfl, rfl, trivial⟩⟩
  ·rintro j s32 y35 hr33 hz34 a w ⟨hS, hA⟩
   refine TG.ap ?_ hS hA
   unfold m35_1 at hr33
   refine sq ?_
   refine sq ?_
   obtain ⟨t39, hx40, hr41⟩ := bd_some hr33
   refine jn (fun a w => St [] W H [K5, H] [] w ∧ Has [] 52 a [(1, .slice ad_requests requests.length cap_requests), (2, .pointer (some q4)), (5, .int .i64 (s32 : Int)), (15, .bool t39)]) ?_ ?_
   ·refine rg ?_
    refine mv rfl rfl ?_
    refine fb 0 Tryz.underlying68 rfl rfl rfl rfl Tryz.sizeOf66 ?_
    refine ld Tryz.isAgg66 rfl rfl ((sS 0 rfl hK6).take 1) rfl ?_
    refine lnL Tryz.underlying66 rfl rfl ?_
    refine ltI rfl rfl rfl ?_
    refine mv rfl rfl ?_
    by_cases hb42 : (s32 : Int) < (r_0.words.length : Int)
    ·have hr43 := if_p hb42 hx40
     refine gN rfl rfl (decide_eq_true hb42) ?_
     refine mv rfl rfl ?_
     refine gN rfl rfl (decide_eq_true hb42) ?_
     refine ltI rfl rfl rfl ?_
     refine pT rfl rfl (decide_eq_true hb42) rfl ?_
     refine on ?_
     obtain rfl := Option.some.inj hr43
     intro a w hS hA
     exact ⟨hS, hA.cut ⟨rfl, rfl, rfl, rfl, trivial⟩⟩
    ·have hr44 := if_n hb42 hx40
     refine gF rfl rfl (decide_eq_false hb42) rfl ?_
     refine gF rfl rfl (decide_eq_false hb42) rfl ?_
     refine pF rfl rfl (decide_eq_false hb42) rfl ?_
     refine on ?_
     obtain rfl := Option.some.inj hr44
     intro a w hS hA
     exact ⟨hS, hA.cut ⟨rfl, rfl, rfl, rfl, trivial⟩⟩
   ·rintro a w ⟨hS, hA⟩
    refine TG.ap ?_ hS hA
    refine cb rfl (fun hc48 => ?_) (fun hc48 => ?_)
    ·have hr49 := if_p hc48 hr41
     refine sk ?_
     refine sq ?_
     refine bk ?_
     refine sq ?_
     refine rg ?_
     refine fb 0 Tryz.underlying68 rfl rfl rfl rfl Tryz.sizeOf66 ?_
     refine ld Tryz.isAgg66 rfl rfl ((sS 0 rfl hK6).take 1) rfl ?_
     refine mv rfl rfl ?_
     obtain ⟨x61, hx62, hr63⟩ := bd_some hr49
     obtain ⟨p64, rfl⟩ := hl3.adr hx62
     obtain ⟨cs65, hcs66, hq67, hr68⟩ := hl3.at hx62
     obtain rfl := hr68
     refine iaP Tryz.underlying66 Tryz.sizeOf74 rfl rfl rfl rfl (lt_of hx62) ?_
     refine fb 0 Tryz.underlying74 rfl rfl rfl rfl Tryz.sizeOf9 ?_
     refine ld Tryz.isAgg9 rfl rfl ((sS 1 rfl hq67).take 1) rfl ?_
     refine lnS Tryz.underlying9 rfl rfl ?_
     refine gtI rfl rfl rfl ?_
     refine on ?_
     refine ci rfl (fun hc72 => ?_) (fun hc72 => ?_)
     ·have hr73 := if_p hc72 hr63
      refine sq ?_
      refine rg ?_
      refine av rfl rfl ?_
      refine on ?_
      refine rt_ ?_
      obtain rfl := Option.some.inj hr73
      obtain rfl := Fin.out hz34
      obtain rfl := Option.some.inj hr30
      intro a w hS hA
      refine ret1 hA rfl rfl ?_
      exact ⟨rfl, hS.ext⟩
     ·have hr74 := if_n hc72 hr63
      refine sk ?_
      refine rg ?_
      refine mv rfl rfl ?_
      obtain ⟨hk75, hr76⟩ := chk_some hr74
      refine adI rfl rfl rfl hk75 ?_
      refine av rfl rfl ?_
      refine on ?_
      obtain rfl := Option.some.inj hr76
      intro a w hS hA
      exact ⟨_, hz34, hS, hA.cut ⟨rfl, rfl, rfl, trivial⟩⟩
    ·have hr77 := if_f hc48 hr41
     refine xt rfl ?_
     obtain rfl := Option.some.inj hr77
     obtain rfl := Fin.out hz34
     intro a w hS hA
     exact ⟨_, rfl, hS, hA.cut ⟨rfl, rfl, trivial⟩⟩
 ·rintro a w ⟨t31, rfl, hS, hA⟩
  refine TG.ap ?_ hS hA
  refine sq ?_
  refine sq ?_
  refine rg ?_
  refine av rfl rfl ?_
  refine on ?_
  obtain ⟨e106, hl107, hr108⟩ := bd_some hr30
  refine jn (fun a w => ∃ t109, e106 = .inl t109 ∧ St [] W H [K5, H] [] w ∧ Has [] 52 a [(1, .slice ad_requests requests.length cap_requests), (2, .pointer (some q4))]) ?_ ?_
  ·refine bk ?_
   refine lp hl107 (fun s110 a w => St [] W H [K5, H] [] w ∧ Has [] 52 a [(1, .slice ad_requests requests.length cap_requests), (2, .pointer (some q4)), (6, .int .i64 (s110 : Int))]) ?_ ?_
   ·intro a w hS hA
    exact ⟨hS, hA.cut ⟨rfl, rfl, rfl, trivial⟩⟩
   ·rintro j s110 y113 hr111 hz112 a w ⟨hS, hA⟩
    refine TG.ap ?_ hS hA
    unfold m35_2 at hr111
    refine sq ?_
    refine sq ?_
    obtain ⟨t117, hx118, hr119⟩ := bd_some hr111
    refine jn (fun a w => St [] W H [K5, H] [] w ∧ Has [] 52 a [(1, .slice ad_requests requests.length cap_requests), (2, .pointer (some q4)), (6, .int .i64 (s110 : Int)), (33, .bool t117)]) ?_ ?_
    ·refine rg ?_
     refine mv rfl rfl ?_
     refine mv rfl rfl ?_
     refine lnL Tryz.underlying69 rfl rfl ?_
     refine ltI rfl rfl rfl ?_
     refine mv rfl rfl ?_
     by_cases hb120 : (s110 : Int) < (requests.length : Int)
     ·have hr121 := if_p hb120 hx118
      refine gN rfl rfl (decide_eq_true hb120) ?_
      refine mv rfl rfl ?_
      refine gN rfl rfl (decide_eq_true hb120) ?_
      refine ltI rfl rfl rfl ?_
      refine pT rfl rfl (decide_eq_true hb120) rfl ?_
      refine on ?_
      obtain rfl := Option.some.inj hr121
      intro a w hS hA
      exact ⟨hS, hA.cut ⟨rfl, rfl, rfl, rfl, trivial⟩⟩
     ·have hr122 := if_n hb120 hx118
      refine gF rfl rfl (decide_eq_false hb120) rfl ?_
      refine gF rfl rfl (decide_eq_false hb120) rfl ?_
      refine pF rfl rfl (decide_eq_false hb120) rfl ?_
      refine on ?_
      obtain rfl := Option.some.inj hr122
      intro a w hS hA
      exact ⟨hS, hA.cut ⟨rfl, rfl, rfl, rfl, trivial⟩⟩
    ·rintro a w ⟨hS, hA⟩
     refine TG.ap ?_ hS hA
     refine cb rfl (fun hc126 => ?_) (fun hc126 => ?_)
     ·have hr127 := if_p hc126 hr119
      refine sk ?_
      refine sq ?_
      refine bk ?_
      refine sq ?_
      refine rg ?_
      refine mv rfl rfl ?_
      refine mv rfl rfl ?_
      obtain ⟨x146, hx147, hr148⟩ := bd_some hr127
      obtain ⟨p149, rfl⟩ := h_requests.adr hx147
      obtain ⟨cs150, hcs151, hq152, hr153⟩ := h_requests.at hx147
      have hr154 := hr153
      obtain ⟨ad155, cap156, rfl, hl157⟩ := hr153
      have := hl157.len
      refine iaP Tryz.underlying69 Tryz.sizeOf73 rfl rfl rfl rfl (lt_of hx147) ?_
      refine fb 4 Tryz.underlying73 rfl rfl rfl rfl Tryz.sizeOf24 ?_
      refine ld Tryz.isAgg24 rfl rfl ((sS 1 rfl hq152).drop 4) rfl ?_
      obtain ⟨r158, hx159, hr160⟩ := bd_some hr148
      refine clS Tryz.call16 rfl rfl rfl rfl (fun w H hH le => w16 hH (hl157.mono (Flat.mono _) (le.at 1 rfl)) 12 hx159) ?_
      refine nt rfl rfl ?_
      refine on ?_
      refine cb rfl (fun hc164 => ?_) (fun hc164 => ?_)
      ·replace hc164 := nbt hc164
       have hr165 := if_f hc164 hr160
       refine sq ?_
       refine rg ?_
       refine av rfl rfl ?_
       refine on ?_
       refine rt_ ?_
       obtain rfl := Option.some.inj hr165
       obtain rfl := Fin.out hz112
       obtain rfl := Option.some.inj hr108
       intro a w hS hA
       refine ret1 hA rfl rfl ?_
       exact ⟨rfl, hS.ext⟩
      ·replace hc164 := nbf hc164
       have hr166 := if_p hc164 hr160
       refine sk ?_
       refine rg ?_
       refine mv rfl rfl ?_
       obtain ⟨hk167, hr168⟩ := chk_some hr166
       refine adI rfl rfl rfl hk167 ?_
       refine av rfl rfl ?_
       refine on ?_
       obtain rfl := Option.some.inj hr168
       intro a w hS hA
       exact ⟨_, hz112, hS, hA.cut ⟨rfl, rfl, rfl, trivial⟩⟩
     ·have hr169 := if_f hc126 hr119
      refine xt rfl ?_
      obtain rfl := Option.some.inj hr169
      obtain rfl := Fin.out hz112
      intro a w hS hA
      exact ⟨_, rfl, hS, hA.cut ⟨rfl, rfl, trivial⟩⟩
  ·rintro a w ⟨t109, rfl, hS, hA⟩
   refine TG.ap ?_ hS hA
   refine sq ?_
   obtain ⟨t173, hx174, hr175⟩ := bd_some hr108
   refine jn (fun a w => St [] W H [K5, H] [] w ∧ Has [] 52 a [(4, .bool t173)]) ?_ ?_
   ·refine rg ?_
    refine fb 0 Tryz.underlying68 rfl rfl rfl rfl Tryz.sizeOf66 ?_
    refine ld Tryz.isAgg66 rfl rfl ((sS 0 rfl hK6).take 1) rfl ?_
    refine lnL Tryz.underlying66 rfl rfl ?_
    refine leI rfl rfl rfl ?_
    refine mv rfl rfl ?_
    by_cases hb176 : (r_0.words.length : Int) ≤ 85
    ·have hr177 := if_p hb176 hx174
     refine gN rfl rfl (decide_eq_true hb176) ?_
     refine mv rfl rfl ?_
     refine gN rfl rfl (decide_eq_true hb176) ?_
     refine lnL Tryz.underlying69 rfl rfl ?_
     refine gN rfl rfl (decide_eq_true hb176) ?_
     refine leI rfl rfl rfl ?_
     refine pT rfl rfl (decide_eq_true hb176) rfl ?_
     refine av rfl rfl ?_
     refine on ?_
     obtain rfl := Option.some.inj hr177
     intro a w hS hA
     exact ⟨hS, hA.cut ⟨rfl, trivial⟩⟩
    ·have hr178 := if_n hb176 hx174
     refine gF rfl rfl (decide_eq_false hb176) rfl ?_
     refine gF rfl rfl (decide_eq_false hb176) rfl ?_
     refine gF rfl rfl (decide_eq_false hb176) rfl ?_
     refine pF rfl rfl (decide_eq_false hb176) rfl ?_
     refine av rfl rfl ?_
     refine on ?_
     obtain rfl := Option.some.inj hr178
     intro a w hS hA
     exact ⟨hS, hA.cut ⟨rfl, trivial⟩⟩
   ·rintro a w ⟨hS, hA⟩
    refine TG.ap ?_ hS hA
    refine rt_ ?_
    obtain rfl := Option.some.inj hr175
    intro a w hS hA
    refine ret1 hA rfl rfl ?_
    exact ⟨rfl, hS.ext⟩

theorem w37 {W : World} {H : Hp} (hH : H.le (hp W)) {cs_r_0 : List Value} (r_0 : Report) (h_r_0 : (RReport) H cs_r_0 r_0) {r : Bool} (hr : m37 r_0 = some r) : Calls Tryz.prog 37 [.agg cs_r_0.toArray].toArray W (RetS W (.bool r)) := by
 have hh_r_0 := h_r_0
 obtain ⟨ad1, cap2, rfl, hl3⟩ := h_r_0
 have := hl3.len
 unfold m37 at hr
 refine enterG Tryz.func37 rfl Tryz.ntmps37 rfl hH ?_
 refine sq ?_
 refine rg ?_
 refine bI (cs := [.slice ad1 r_0.words.length cap2, .int .i64 r_0.out, .int .i64 r_0.within]) rfl rfl rfl fun q4 K5 hK6 => ?_
 refine av rfl rfl ?_
 refine on ?_
 refine sq ?_
 refine sq ?_
 refine rg ?_
 refine av rfl rfl ?_
 refine on ?_
 obtain ⟨e32, hl33, hr34⟩ := bd_some hr
 refine jn (fun a w => ∃ t35, e32 = .inl t35 ∧ St [] W H [K5, H] [] w ∧ Has [] 43 a [(1, .pointer (some q4))]) ?_ ?_
 ·refine bk ?_
  refine lp hl33 (fun s36 a w => St [] W H [K5, H] [] w ∧ Has [] 43 a [(1, .pointer (some q4)), (3, .int .i64 (s36 : Int))]) ?_ ?_
  ·intro a w hS hA
   exact ⟨hS, hA.cut ⟨rfl, rfl, trivial⟩⟩
  ·rintro j s36 y39 hr37 hz38 a w ⟨hS, hA⟩
   refine TG.ap ?_ hS hA
   unfold m37_1 at hr37
   refine sq ?_
   refine sq ?_
   refine rg ?_
   refine mv rfl rfl ?_
   refine fb 0 Tryz.underlying68 rfl rfl rfl rfl Tryz.sizeOf66 ?_
   refine ld Tryz.isAgg66 rfl rfl ((sS 0 rfl hK6).take 1) rfl ?_
   refine lnL Tryz.underlying66 rfl rfl ?_
   refine ltI rfl rfl rfl ?_
   refine on ?_
   refine ci rfl (fun hc43 => ?_) (fun hc43 => ?_)
   ·have hr44 := if_p hc43 hr37
    refine sk ?_
    refine sq ?_
    refine bk ?_
    refine sq ?_
    obtain ⟨t83, hx84, hr85⟩ := bd_some hr44
    refine jn (fun a w => St [] W H [K5, H] [] w ∧ Has [] 43 a [(1, .pointer (some q4)), (3, .int .i64 (s36 : Int)), (28, .bool t83)]) ?_ ?_
    ·refine rg ?_
     refine fb 0 Tryz.underlying68 rfl rfl rfl rfl Tryz.sizeOf66 ?_
     refine ld Tryz.isAgg66 rfl rfl ((sS 0 rfl hK6).take 1) rfl ?_
     refine mv rfl rfl ?_
     obtain ⟨x86, hx87, hr88⟩ := bd_some hx84
     obtain ⟨p89, rfl⟩ := hl3.adr hx87
     obtain ⟨cs90, hcs91, hq92, hr93⟩ := hl3.at hx87
     obtain rfl := hr93
     refine iaP Tryz.underlying66 Tryz.sizeOf74 rfl rfl rfl rfl (lt_of hx87) ?_
     refine fb 0 Tryz.underlying74 rfl rfl rfl rfl Tryz.sizeOf9 ?_
     refine ld Tryz.isAgg9 rfl rfl ((sS 1 rfl hq92).take 1) rfl ?_
     obtain ⟨r94, hx95, hr96⟩ := bd_some hr88
     refine clS Tryz.call60 rfl rfl rfl rfl (fun w H hH le => w60 x86.text hx95) ?_
     refine nt rfl rfl ?_
     refine mv rfl rfl ?_
     rcases Bool.eq_false_or_eq_true (r94) with hb97 | hb97
     ·have hr98 := if_p hb97 hr96
      refine gN rfl rfl (congrArg not (hb97)) ?_
      refine fb 0 Tryz.underlying68 rfl rfl rfl rfl Tryz.sizeOf66 ?_
      refine gN rfl rfl (congrArg not (hb97)) ?_
      refine ld Tryz.isAgg66 rfl rfl ((sS 0 rfl hK6).take 1) rfl ?_
      refine gN rfl rfl (congrArg not (hb97)) ?_
      refine mv rfl rfl ?_
      refine gN rfl rfl (congrArg not (hb97)) ?_
      refine iaP Tryz.underlying66 Tryz.sizeOf74 rfl rfl rfl rfl (lt_of hx87) ?_
      refine gN rfl rfl (congrArg not (hb97)) ?_
      refine fb 1 Tryz.underlying74 rfl rfl rfl rfl Tryz.sizeOf3 ?_
      refine gN rfl rfl (congrArg not (hb97)) ?_
      refine ld Tryz.isAgg3 rfl rfl ((sS 1 rfl hq92).drop 1) rfl ?_
      refine gN rfl rfl (congrArg not (hb97)) ?_
      obtain ⟨r99, hx100, hr101⟩ := bd_some hr98
      refine clS Tryz.call28 rfl rfl rfl rfl (fun w H hH le => w28 x86.speaker 0 999 hx100) ?_
      refine gN rfl rfl (congrArg not (hb97)) ?_
      refine nt rfl rfl ?_
      refine pF rfl rfl (congrArg not (hb97)) rfl ?_
      refine on ?_
      obtain rfl := Option.some.inj hr101
      intro a w hS hA
      exact ⟨hS, hA.cut ⟨rfl, rfl, rfl, trivial⟩⟩
     ·have hr102 := if_f hb97 hr96
      refine gF rfl rfl (congrArg not (hb97)) rfl ?_
      refine gF rfl rfl (congrArg not (hb97)) rfl ?_
      refine gF rfl rfl (congrArg not (hb97)) rfl ?_
      refine gF rfl rfl (congrArg not (hb97)) rfl ?_
      refine gF rfl rfl (congrArg not (hb97)) rfl ?_
      refine gF rfl rfl (congrArg not (hb97)) rfl ?_
      refine gF rfl rfl (congrArg not (hb97)) rfl ?_
      refine gF rfl rfl (congrArg not (hb97)) rfl ?_
      refine pT rfl rfl (congrArg not (hb97)) rfl ?_
      refine on ?_
      obtain rfl := Option.some.inj hr102
      intro a w hS hA
      exact ⟨hS, hA.cut ⟨rfl, rfl, rfl, trivial⟩⟩
    ·rintro a w ⟨hS, hA⟩
     refine TG.ap ?_ hS hA
     refine cb rfl (fun hc106 => ?_) (fun hc106 => ?_)
     ·have hr107 := if_p hc106 hr85
      refine sq ?_
      refine rg ?_
      refine av rfl rfl ?_
      refine on ?_
      refine rt_ ?_
      obtain rfl := Option.some.inj hr107
      obtain rfl := Fin.out hz38
      obtain rfl := Option.some.inj hr34
      intro a w hS hA
      refine ret1 hA rfl rfl ?_
      exact ⟨rfl, hS.ext⟩
     ·have hr108 := if_f hc106 hr85
      refine sk ?_
      refine rg ?_
      refine mv rfl rfl ?_
      refine adI rfl rfl rfl (by omega) ?_
      refine av rfl rfl ?_
      refine on ?_
      obtain rfl := Option.some.inj hr108
      intro a w hS hA
      exact ⟨_, hz38, hS, hA.cut ⟨rfl, rfl, trivial⟩⟩
   ·have hr109 := if_n hc43 hr37
    refine xt rfl ?_
    obtain rfl := Option.some.inj hr109
    obtain rfl := Fin.out hz38
    intro a w hS hA
    exact ⟨_, rfl, hS, hA.cut ⟨rfl, trivial⟩⟩
 ·rintro a w ⟨t35, rfl, hS, hA⟩
  refine TG.ap ?_ hS hA
  refine sq ?_
  obtain ⟨t122, hx123, hr124⟩ := bd_some hr34
  refine jn (fun a w => St [] W H [K5, H] [] w ∧ Has [] 43 a [(2, .bool t122)]) ?_ ?_
  ·refine rg ?_
   refine fb 0 Tryz.underlying68 rfl rfl rfl rfl Tryz.sizeOf66 ?_
   refine ld Tryz.isAgg66 rfl rfl ((sS 0 rfl hK6).take 1) rfl ?_
   refine lnL Tryz.underlying66 rfl rfl ?_
   refine leI rfl rfl rfl ?_
   refine mv rfl rfl ?_
   by_cases hb125 : (r_0.words.length : Int) ≤ 80
   ·have hr126 := if_p hb125 hx123
    refine gN rfl rfl (decide_eq_true hb125) ?_
    refine fb 1 Tryz.underlying68 rfl rfl rfl rfl Tryz.sizeOf3 ?_
    refine gN rfl rfl (decide_eq_true hb125) ?_
    refine ld Tryz.isAgg3 rfl rfl (((sS 0 rfl hK6).drop 1).take 1) rfl ?_
    refine gN rfl rfl (decide_eq_true hb125) ?_
    obtain ⟨r127, hx128, hr129⟩ := bd_some hr126
    refine clS Tryz.call28 rfl rfl rfl rfl (fun w H hH le => w28 r_0.out 0 100000 hx128) ?_
    refine pT rfl rfl (decide_eq_true hb125) rfl ?_
    refine mv rfl rfl ?_
    rcases Bool.eq_false_or_eq_true (r127) with hb130 | hb130
    ·have hr131 := if_p hb130 hr129
     refine gN rfl rfl (hb130) ?_
     refine fb 2 Tryz.underlying68 rfl rfl rfl rfl Tryz.sizeOf3 ?_
     refine gN rfl rfl (hb130) ?_
     refine ld Tryz.isAgg3 rfl rfl ((sS 0 rfl hK6).drop 2) rfl ?_
     refine gN rfl rfl (hb130) ?_
     obtain ⟨r132, hx133, hr134⟩ := bd_some hr131
     refine clS Tryz.call28 rfl rfl rfl rfl (fun w H hH le => w28 r_0.within 0 100000 hx133) ?_
     refine pT rfl rfl (hb130) rfl ?_
     refine av rfl rfl ?_
     refine on ?_
     obtain rfl := Option.some.inj hr134
     intro a w hS hA
     exact ⟨hS, hA.cut ⟨rfl, trivial⟩⟩
    ·have hr135 := if_f hb130 hr129
     refine gF rfl rfl (hb130) rfl ?_
     refine gF rfl rfl (hb130) rfl ?_
     refine gF rfl rfl (hb130) rfl ?_
     refine pF rfl rfl (hb130) rfl ?_
     refine av rfl rfl ?_
     refine on ?_
     obtain rfl := Option.some.inj hr135
     intro a w hS hA
     exact ⟨hS, hA.cut ⟨rfl, trivial⟩⟩
   ·have hr136 := if_n hb125 hx123
    refine gF rfl rfl (decide_eq_false hb125) rfl ?_
    refine gF rfl rfl (decide_eq_false hb125) rfl ?_
    refine gF rfl rfl (decide_eq_false hb125) rfl ?_
    refine pF rfl rfl (decide_eq_false hb125) rfl ?_
    refine mv rfl rfl ?_
    refine gF rfl rfl rfl rfl ?_
    refine gF rfl rfl rfl rfl ?_
    refine gF rfl rfl rfl rfl ?_
    refine pF rfl rfl rfl rfl ?_
    refine av rfl rfl ?_
    refine on ?_
    obtain rfl := Option.some.inj hr136
    intro a w hS hA
    exact ⟨hS, hA.cut ⟨rfl, trivial⟩⟩
  ·rintro a w ⟨hS, hA⟩
   refine TG.ap ?_ hS hA
   refine rt_ ?_
   obtain rfl := Option.some.inj hr124
   intro a w hS hA
   refine ret1 hA rfl rfl ?_
   exact ⟨rfl, hS.ext⟩

theorem w38 {W : World} {H : Hp} (hH : H.le (hp W)) {cs_l_0 : List Value} (l_0 : Lexicon) (h_l_0 : (RLexicon) H cs_l_0 l_0) {ad_swaps : Option Addr} {cap_swaps : Nat} {swaps : List Swap} (h_swaps : Sl (Flat encSwap) 3 H ad_swaps cap_swaps swaps) {cs_r_2 : List Value} (r_2 : Report) (h_r_2 : (RReport) H cs_r_2 r_2) {ad_requests : Option Addr} {cap_requests : Nat} {requests : List Request} (h_requests : Sl (RRequest) 5 H ad_requests cap_requests requests) {r : Int} (hr : m38 l_0 swaps r_2 requests = some r) : Calls Tryz.prog 38 [.agg cs_l_0.toArray, .slice ad_swaps swaps.length cap_swaps, .agg cs_r_2.toArray, .slice ad_requests requests.length cap_requests].toArray W (RetS W (.int .i64 r)) := by
 have hh_l_0 := h_l_0
 obtain ⟨ad1, cap2, ad4, cap5, ad7, cap8, rfl, hl3, hl6, hl9⟩ := h_l_0
 have := hl3.len
 have := hl6.len
 have := hl9.len
 have := h_swaps.len
 have hh_r_2 := h_r_2
 obtain ⟨ad10, cap11, rfl, hl12⟩ := h_r_2
 have := hl12.len
 have := h_requests.len
 unfold m38 at hr
 refine enterG Tryz.func38 rfl Tryz.ntmps38 rfl hH ?_
 refine sq ?_
 refine rg ?_
 refine bI (cs := [.slice ad1 l_0.numbers.length cap2, .slice ad4 l_0.names.length cap5, .slice ad7 l_0.nots.length cap8]) rfl rfl rfl fun q13 K14 hK15 => ?_
 refine bI (cs := [.slice ad10 r_2.words.length cap11, .int .i64 r_2.out, .int .i64 r_2.within]) rfl rfl rfl fun q16 K17 hK18 => ?_
 refine av rfl rfl ?_
 refine on ?_
 refine sq ?_
 refine sq ?_
 refine rg ?_
 refine ldA Tryz.isAgg26 Tryz.sizeOf26 rfl rfl (sS 1 rfl hK15) rfl ?_
 refine mv rfl rfl ?_
 obtain ⟨r19, hx20, hr21⟩ := bd_some hr
 refine clS Tryz.call22 rfl rfl rfl rfl (fun w H hH le => w22 hH l_0 (RLexicon.mono _ _ _ _ (le.at 2 rfl) hh_l_0) (h_swaps.mono (Flat.mono _) (le.at 2 rfl)) hx20) ?_
 refine av rfl rfl ?_
 refine on ?_
 refine sq ?_
 refine rg ?_
 refine mv rfl rfl ?_
 refine neI rfl rfl rfl ?_
 refine on ?_
 refine ci rfl (fun hc25 => ?_) (fun hc25 => ?_)
 ·have hr26 := if_p hc25 hr21
  refine sq ?_
  refine rg ?_
  refine mv rfl rfl ?_
  refine av rfl rfl ?_
  refine on ?_
  refine rt_ ?_
  obtain rfl := Option.some.inj hr26
  intro a w hS hA
  refine ret1 hA rfl rfl ?_
  exact ⟨rfl, hS.ext⟩
 ·have hr27 := if_n hc25 hr21
  refine sk ?_
  refine sq ?_
  refine sq ?_
  refine rg ?_
  refine ldA Tryz.isAgg68 Tryz.sizeOf68 rfl rfl (sS 0 rfl hK18) rfl ?_
  obtain ⟨r28, hx29, hr30⟩ := bd_some hr27
  refine clS Tryz.call37 rfl rfl rfl rfl (fun w H hH le => w37 hH r_2 (RReport.mono _ _ _ _ (le.at 2 rfl) hh_r_2) hx29) ?_
  refine nt rfl rfl ?_
  refine on ?_
  refine cb rfl (fun hc34 => ?_) (fun hc34 => ?_)
  ·replace hc34 := nbt hc34
   have hr35 := if_f hc34 hr30
   refine sq ?_
   refine rg ?_
   refine av rfl rfl ?_
   refine on ?_
   refine rt_ ?_
   obtain rfl := Option.some.inj hr35
   intro a w hS hA
   refine ret1 hA rfl rfl ?_
   exact ⟨rfl, hS.ext⟩
  ·replace hc34 := nbf hc34
   have hr36 := if_p hc34 hr30
   refine sk ?_
   refine sq ?_
   refine sq ?_
   refine rg ?_
   refine mv rfl rfl ?_
   refine lnL Tryz.underlying69 rfl rfl ?_
   refine gtI rfl rfl rfl ?_
   refine on ?_
   refine ci rfl (fun hc40 => ?_) (fun hc40 => ?_)
   ·have hr41 := if_p hc40 hr36
    refine sq ?_
    refine rg ?_
    refine av rfl rfl ?_
    refine on ?_
    refine rt_ ?_
    obtain rfl := Option.some.inj hr41
    intro a w hS hA
    refine ret1 hA rfl rfl ?_
    exact ⟨rfl, hS.ext⟩
   ·have hr42 := if_n hc40 hr36
    refine sk ?_
    refine sq ?_
    refine rg ?_
    refine av rfl rfl ?_
    refine on ?_
    refine rt_ ?_
    obtain rfl := Option.some.inj hr42
    intro a w hS hA
    refine ret1 hA rfl rfl ?_
    exact ⟨rfl, hS.ext⟩

theorem w30 {W : World} {H : Hp} (hH : H.le (hp W)) {cs_l_0 : List Value} (l_0 : Lexicon) (h_l_0 : (RLexicon) H cs_l_0 l_0) {ad_swaps : Option Addr} {cap_swaps : Nat} {swaps : List Swap} (h_swaps : Sl (Flat encSwap) 3 H ad_swaps cap_swaps swaps) {cs_r_2 : List Value} (r_2 : Report) (h_r_2 : (RReport) H cs_r_2 r_2) {ad_requests : Option Addr} {cap_requests : Nat} {requests : List Request} (h_requests : Sl (RRequest) 5 H ad_requests cap_requests requests) {r : Bool} (hr : m30 l_0 swaps r_2 requests = some r) : Calls Tryz.prog 30 [.agg cs_l_0.toArray, .slice ad_swaps swaps.length cap_swaps, .agg cs_r_2.toArray, .slice ad_requests requests.length cap_requests].toArray W (RetS W (.bool r)) := by
 have hh_l_0 := h_l_0
 obtain ⟨ad1, cap2, ad4, cap5, ad7, cap8, rfl, hl3, hl6, hl9⟩ := h_l_0
 have := hl3.len
 have := hl6.len
 have := hl9.len
 have := h_swaps.len
 have hh_r_2 := h_r_2
 obtain ⟨ad10, cap11, rfl, hl12⟩ := h_r_2
 have := hl12.len
 have := h_requests.len
 unfold m30 at hr
 refine enterG Tryz.func30 rfl Tryz.ntmps30 rfl hH ?_
 refine sq ?_
 refine rg ?_
 refine bI (cs := [.slice ad1 l_0.numbers.length cap2, .slice ad4 l_0.names.length cap5, .slice ad7 l_0.nots.length cap8]) rfl rfl rfl fun q13 K14 hK15 => ?_
 refine bI (cs := [.slice ad10 r_2.words.length cap11, .int .i64 r_2.out, .int .i64 r_2.within]) rfl rfl rfl fun q16 K17 hK18 => ?_
 refine av rfl rfl ?_
 refine on ?_
 refine sq ?_
 obtain ⟨t34, hx35, hr36⟩ := bd_some hr
 refine jn (fun a w => St [] W H [K17, K14, H] [] w ∧ Has [] 25 a [(8, .bool t34)]) ?_ ?_
 ·refine rg ?_
  refine ldA Tryz.isAgg26 Tryz.sizeOf26 rfl rfl (sS 1 rfl hK15) rfl ?_
  refine mv rfl rfl ?_
  obtain ⟨r37, hx38, hr39⟩ := bd_some hx35
  refine clS Tryz.call15 rfl rfl rfl rfl (fun w H hH le => w15 hH l_0 (RLexicon.mono _ _ _ _ (le.at 2 rfl) hh_l_0) (h_swaps.mono (Flat.mono _) (le.at 2 rfl)) hx38) ?_
  refine mv rfl rfl ?_
  rcases Bool.eq_false_or_eq_true (r37) with hb40 | hb40
  ·have hr41 := if_p hb40 hr39
   refine gN rfl rfl (hb40) ?_
   refine ldA Tryz.isAgg68 Tryz.sizeOf68 rfl rfl (sS 0 rfl hK18) rfl ?_
   refine gN rfl rfl (hb40) ?_
   refine mv rfl rfl ?_
   refine gN rfl rfl (hb40) ?_
   obtain ⟨r42, hx43, hr44⟩ := bd_some hr41
   refine clS Tryz.call35 rfl rfl rfl rfl (fun w H hH le => w35 hH r_2 (RReport.mono _ _ _ _ (le.at 2 rfl) hh_r_2) (h_requests.mono (RRequest.mono) (le.at 2 rfl)) hx43) ?_
   refine pT rfl rfl (hb40) rfl ?_
   refine mv rfl rfl ?_
   rcases Bool.eq_false_or_eq_true (r42) with hb45 | hb45
   ·have hr46 := if_p hb45 hr44
    refine gN rfl rfl (hb45) ?_
    refine ldA Tryz.isAgg26 Tryz.sizeOf26 rfl rfl (sS 1 rfl hK15) rfl ?_
    refine gN rfl rfl (hb45) ?_
    refine mv rfl rfl ?_
    refine gN rfl rfl (hb45) ?_
    refine ldA Tryz.isAgg68 Tryz.sizeOf68 rfl rfl (sS 0 rfl hK18) rfl ?_
    refine gN rfl rfl (hb45) ?_
    refine mv rfl rfl ?_
    refine gN rfl rfl (hb45) ?_
    obtain ⟨r47, hx48, hr49⟩ := bd_some hr46
    refine clS Tryz.call38 rfl rfl rfl rfl (fun w H hH le => w38 hH l_0 (RLexicon.mono _ _ _ _ (le.at 2 rfl) hh_l_0) (h_swaps.mono (Flat.mono _) (le.at 2 rfl)) r_2 (RReport.mono _ _ _ _ (le.at 2 rfl) hh_r_2) (h_requests.mono (RRequest.mono) (le.at 2 rfl)) hx48) ?_
    refine gN rfl rfl (hb45) ?_
    refine eqI rfl rfl rfl ?_
    refine pT rfl rfl (hb45) rfl ?_
    refine av rfl rfl ?_
    refine on ?_
    obtain rfl := Option.some.inj hr49
    intro a w hS hA
    exact ⟨hS, hA.cut ⟨rfl, trivial⟩⟩
   ·have hr50 := if_f hb45 hr44
    refine gF rfl rfl (hb45) rfl ?_
    refine gF rfl rfl (hb45) rfl ?_
    refine gF rfl rfl (hb45) rfl ?_
    refine gF rfl rfl (hb45) rfl ?_
    refine gF rfl rfl (hb45) rfl ?_
    refine gF rfl rfl (hb45) rfl ?_
    refine pF rfl rfl (hb45) rfl ?_
    refine av rfl rfl ?_
    refine on ?_
    obtain rfl := Option.some.inj hr50
    intro a w hS hA
    exact ⟨hS, hA.cut ⟨rfl, trivial⟩⟩
  ·have hr51 := if_f hb40 hr39
   refine gF rfl rfl (hb40) rfl ?_
   refine gF rfl rfl (hb40) rfl ?_
   refine gF rfl rfl (hb40) rfl ?_
   refine pF rfl rfl (hb40) rfl ?_
   refine mv rfl rfl ?_
   refine gF rfl rfl rfl rfl ?_
   refine gF rfl rfl rfl rfl ?_
   refine gF rfl rfl rfl rfl ?_
   refine gF rfl rfl rfl rfl ?_
   refine gF rfl rfl rfl rfl ?_
   refine gF rfl rfl rfl rfl ?_
   refine pF rfl rfl rfl rfl ?_
   refine av rfl rfl ?_
   refine on ?_
   obtain rfl := Option.some.inj hr51
   intro a w hS hA
   exact ⟨hS, hA.cut ⟨rfl, trivial⟩⟩
 ·rintro a w ⟨hS, hA⟩
  refine TG.ap ?_ hS hA
  refine rt_ ?_
  obtain rfl := Option.some.inj hr36
  intro a w hS hA
  refine ret1 hA rfl rfl ?_
  exact ⟨rfl, hS.ext⟩

theorem w31 {W : World} {H : Hp} (hH : H.le (hp W)) {cs_r_0 : List Value} (r_0 : Report) (h_r_0 : (RReport) H cs_r_0 r_0) {r : Report} (hr : m31 r_0 = some r) : Calls Tryz.prog 31 [.agg cs_r_0.toArray].toArray W (RetK H W (fun v K => ∃ (cs0 : List Value), v = .agg cs0.toArray ∧ (RReport) K cs0 r)) := by
 have hh_r_0 := h_r_0
 obtain ⟨ad1, cap2, rfl, hl3⟩ := h_r_0
 have := hl3.len
 unfold m31 at hr
 refine enterG Tryz.func31 rfl Tryz.ntmps31 rfl hH ?_
 refine sq ?_
 refine rg ?_
 refine bI (cs := [.slice ad1 r_0.words.length cap2, .int .i64 r_0.out, .int .i64 r_0.within]) rfl rfl rfl fun q4 K5 hK6 => ?_
 refine al 1 (cs := [.slice none 0 0, .int .i64 0, .int .i64 0]) Tryz.zeroValue56 rfl rfl fun b7 => ?_
 refine on ?_
 refine sq ?_
 refine rg ?_
 refine fb 1 Tryz.underlying68 rfl rfl rfl rfl Tryz.sizeOf3 ?_
 refine ld Tryz.isAgg3 rfl rfl (((sS 0 rfl hK6).drop 1).take 1) rfl ?_
 refine fb 2 Tryz.underlying68 rfl rfl rfl rfl Tryz.sizeOf3 ?_
 refine ld Tryz.isAgg3 rfl rfl ((sS 0 rfl hK6).drop 2) rfl ?_
 refine bu (cs := [.slice none 0 0, .int .i64 r_0.out, .int .i64 r_0.within]) T4.B56 rfl rfl rfl ?_
 refine al 2 (cs := [.slice none 0 0, .int .i64 0, .int .i64 0]) Tryz.zeroValue56 rfl rfl fun b8 => ?_
 refine sto 2 (cs := [.slice none 0 0, .int .i64 r_0.out, .int .i64 r_0.within]) Tryz.sizeOf56 rfl rfl rfl rfl rfl rfl rfl ?_
 refine on ?_
 refine sq ?_
 refine sq ?_
 refine rg ?_
 refine av rfl rfl ?_
 refine on ?_
 refine TG.nilRow 4 58 2 ?_
 refine TG.as 4 (z := Own.list none 0 58 2 encSaid ([] : List Said)) rfl rfl ?_
 obtain ⟨e90, hl91, hr92⟩ := bd_some hr
 refine jn (fun a w => ∃ (ad93 : Option Addr) (cap94 : Nat), St [] W H [K5, H] [(4, Own.list ad93 cap94 58 2 encSaid e90), (2, cel b8 56 [.slice ad93 e90.length cap94, .int .i64 r_0.out, .int .i64 r_0.within]), (1, cel b7 56 [.slice none 0 0, .int .i64 0, .int .i64 0])] w ∧ Has [] 36 a [(2, .pointer (some (⟨b7, 0, none⟩))), (3, .pointer (some (⟨b8, 0, none⟩)))]) ?_ ?_
 ·refine bk ?_
  refine lp hl91 (fun s95 a w => ∃ (ad96 : Option Addr) (cap97 : Nat), St [] W H [K5, H] [(4, Own.list ad96 cap97 58 2 encSaid s95.2), (2, cel b8 56 [.slice ad96 s95.2.length cap97, .int .i64 r_0.out, .int .i64 r_0.within]), (1, cel b7 56 [.slice none 0 0, .int .i64 0, .int .i64 0])] w ∧ Has [] 36 a [(1, .pointer (some q4)), (2, .pointer (some (⟨b7, 0, none⟩))), (3, .pointer (some (⟨b8, 0, none⟩))), (4, .int .i64 (s95.1 : Int))]) ?_ ?_
  ·intro a w hS hA
   exact ⟨none, 0, hS, hA.cut ⟨rfl, rfl, rfl, rfl, trivial⟩⟩
  ·rintro j s95 y100 hr98 hz99 a w ⟨ad96, cap97, hS, hA⟩
   refine TG.ap ?_ hS hA
   unfold m31_1 at hr98
   refine sq ?_
   refine sq ?_
   refine rg ?_
   refine mv rfl rfl ?_
   refine fb 0 Tryz.underlying68 rfl rfl rfl rfl Tryz.sizeOf66 ?_
   refine ld Tryz.isAgg66 rfl rfl ((sS 0 rfl hK6).take 1) rfl ?_
   refine lnL Tryz.underlying66 rfl rfl ?_
   refine ltI rfl rfl rfl ?_
   refine on ?_
   refine ci rfl (fun hc104 => ?_) (fun hc104 => ?_)
   ·have hr105 := if_p hc104 hr98
    refine sk ?_
    refine sq ?_
    refine bk ?_
    obtain ⟨x127, hx128, hr129⟩ := bd_some hr105
    obtain ⟨p130, rfl⟩ := hl3.adr hx128
    obtain ⟨cs131, hcs132, hq133, hr134⟩ := hl3.at hx128
    obtain rfl := hr134
    refine drG 16 T4.mixed (by kernel_rfl) rfl ?_
    refine DF.det rfl (fun a w K hS hA hF => TG.pa hS hA (fb 0 Tryz.underlying56 rfl rfl rfl rfl Tryz.sizeOf54 fin1)) ?_
    refine DF.det rfl (fun a w K hS hA hF => TG.pa hS hA (ld Tryz.isAgg54 rfl rfl ((sO 2 rfl).take 1) rfl fin1)) ?_
    refine DF.det rfl (fun a w K hS hA hF => TG.pa hS hA (fb 0 Tryz.underlying68 rfl rfl rfl rfl Tryz.sizeOf66 fin1)) ?_
    refine DF.det rfl (fun a w K hS hA hF => TG.pa hS hA (ld Tryz.isAgg66 rfl rfl ((sS 1 rfl hK6).take 1) rfl fin1)) ?_
    refine DF.det rfl (fun a w K hS hA hF => TG.pa hS hA (mv rfl rfl fin1)) ?_
    refine DF.det rfl (fun a w K hS hA hF => TG.pa hS hA (iaP Tryz.underlying66 Tryz.sizeOf74 rfl rfl rfl rfl (lt_of hx128) fin1)) ?_
    refine DF.det rfl (fun a w K hS hA hF => TG.pa hS hA (fb 0 Tryz.underlying74 rfl rfl rfl rfl Tryz.sizeOf9 fin1)) ?_
    refine DF.det rfl (fun a w K hS hA hF => TG.pa hS hA (ld Tryz.isAgg9 rfl rfl ((sS 2 rfl hq133).take 1) rfl fin1)) ?_
    refine DF.det rfl (fun a w K hS hA hF => TG.pa hS hA (fb 0 Tryz.underlying68 rfl rfl rfl rfl Tryz.sizeOf66 fin1)) ?_
    refine DF.det rfl (fun a w K hS hA hF => TG.pa hS hA (ld Tryz.isAgg66 rfl rfl ((sS 1 rfl hK6).take 1) rfl fin1)) ?_
    refine DF.det rfl (fun a w K hS hA hF => TG.pa hS hA (mv rfl rfl fin1)) ?_
    refine DF.det rfl (fun a w K hS hA hF => TG.pa hS hA (iaP Tryz.underlying66 Tryz.sizeOf74 rfl rfl rfl rfl (lt_of hx128) fin1)) ?_
    refine DF.det rfl (fun a w K hS hA hF => TG.pa hS hA (fb 1 Tryz.underlying74 rfl rfl rfl rfl Tryz.sizeOf3 fin1)) ?_
    refine DF.det rfl (fun a w K hS hA hF => TG.pa hS hA (ld Tryz.isAgg3 rfl rfl ((sS 2 rfl hq133).drop 1) rfl fin1)) ?_
    refine DF.det rfl (fun a w K hS hA hF => TG.pa hS hA (bu (cs := [.string (bs x127.text), .int .i64 x127.speaker]) T4.B58 rfl rfl rfl fin1)) ?_
    refine DF.und (α := Option Addr × Nat) (none, 0) (fun q => .slice q.1 1 q.2) (fun (q : Option Addr × Nat) K => Sl (Flat encSaid) 2 K q.1 q.2 ([x127] : List Said)) (fun _ _ _ h x => x.mono (Flat.mono _) h) (by kernel_rfl) rfl (fun a w K hS hA hF => TG.pa hS hA (bS (cs := [.string (bs x127.text), .int .i64 x127.speaker]) T4.E54 rfl rfl rfl rfl fun q135 K136 hq137 hK138 => by
      have hl139 : Sl (Flat encSaid) 2 K136 (some q135) 1 ([x127] : List Said) := Sl.litR (css := [[.string (bs x127.text), .int .i64 x127.speaker]]) (l := ([x127] : List Said)) ⟨⟨rfl, rfl, rfl⟩, trivial⟩ hq137 hK138 rfl
      have := hl139.len
      exact finU (f := fun q => .slice q.1 1 q.2) (G := (fun (q : Option Addr × Nat) K => Sl (Flat encSaid) 2 K q.1 q.2 ([x127] : List Said))) (_, _) (fun _ _ _ h x => x.mono (Flat.mono _) h) hl139)) ?_
    rintro ⟨ad141, cap142⟩
    refine DF.nil fun K143 hF => ?_
    obtain ⟨hu140, _⟩ := hF
    have := hu140.len
    obtain ⟨hk144, hr145⟩ := chk_some hr129
    have := lenA s95.2 ([x127] : List Said)
    refine apS 4 (enc := encSaid) (l := s95.2) (m := ([x127] : List Said)) T4.E54 rfl rfl rfl rfl rfl rfl hu140 0 rfl (fun _ => rfl) (fun _ => rfl) rfl hk144 fun ad146 cap147 => ?_
    refine fb 0 Tryz.underlying56 rfl rfl rfl rfl Tryz.sizeOf54 ?_
    refine sto 2 (cs := [.slice ad146 ((s95.2 ++ ([x127] : List Said)).length) cap147]) Tryz.sizeOf54 rfl rfl rfl rfl rfl rfl rfl ?_
    refine on ?_
    refine rg ?_
    refine mv rfl rfl ?_
    refine adI rfl rfl rfl (by omega) ?_
    refine av rfl rfl ?_
    refine on ?_
    obtain rfl := Option.some.inj hr145
    intro a w hS hA
    exact ⟨_, hz99, ad146, cap147, hS.selH [1, 2] rfl, hA.cut ⟨rfl, rfl, rfl, rfl, trivial⟩⟩
   ·have hr148 := if_n hc104 hr98
    refine xt rfl ?_
    obtain rfl := Option.some.inj hr148
    obtain rfl := Fin.out hz99
    intro a w hS hA
    exact ⟨ad96, cap97, hS, hA.cut ⟨rfl, rfl, trivial⟩⟩
 ·rintro a w ⟨ad93, cap94, hS, hA⟩
  refine TG.ap ?_ hS hA
  refine sq ?_
  refine rg ?_
  refine ldA Tryz.isAgg56 Tryz.sizeOf56 rfl rfl (sO 2 rfl) rfl ?_
  refine sto 1 (cs := [.slice ad93 e90.length cap94, .int .i64 r_0.out, .int .i64 r_0.within]) Tryz.sizeOf56 rfl rfl rfl rfl rfl rfl rfl ?_
  refine on ?_
  refine rt_ ?_
  obtain rfl := Option.some.inj hr92
  intro a w hS hA
  refine rc1 hA rfl (ResAt.cell rfl (loadsA Tryz.isAgg56 Tryz.sizeOf56 (cell_at (hS.get (t := 1) rfl)) rfl)) ?_
  exact ⟨⟨_, rfl, ⟨_, _, rfl, (hS.listOut 4 rfl (fun _ => rfl))⟩⟩, hS.ext⟩

theorem w32 {W : World} {H : Hp} (hH : H.le (hp W)) {ad_l_0 : Option Addr} {cap_l_0 : Nat} {l_0 : List Request} (h_l_0 : Sl (RRequest) 5 H ad_l_0 cap_l_0 l_0) {r : List Request} (hr : m32 l_0 = some r) : Calls Tryz.prog 32 [.slice ad_l_0 l_0.length cap_l_0].toArray W (RetK H W (fun v K => ∃ (ad0 : Option Addr) (cap0 : Nat), v = .slice ad0 r.length cap0 ∧ Sl (RRequest) 5 K ad0 cap0 r)) := by
 have := h_l_0.len
 unfold m32 at hr
 refine enterG Tryz.func32 rfl Tryz.ntmps32 rfl hH ?_
 refine sq ?_
 refine rg ?_
 refine av rfl rfl ?_
 refine on ?_
 refine sq ?_
 refine rg ?_
 refine av rfl rfl ?_
 refine on ?_
 refine sq ?_
 refine sq ?_
 refine rg ?_
 refine av rfl rfl ?_
 refine on ?_
 refine TG.nilRow 2 63 5 ?_
 have hR51 : Rows (RRequest) 5 H [] ([] : List Request) := trivial
 refine TG.as 2 (z := Own.rows none 0 63 5 [] ([] : List Request)) rfl rfl ?_
 obtain ⟨e165, hl166, hr167⟩ := bd_some hr
 refine jn (fun a w => ∃ (ad168 : Option Addr) (cap169 : Nat) (css170 : List (List Value)) (K171 : Hp), St [] W H [K171, H] [(2, Own.rows ad168 cap169 63 5 css170 e165)] w ∧ Has [] 32 a [(3, .slice ad168 e165.length cap169)] ∧ Rows (RRequest) 5 K171 css170 e165) ?_ ?_
 ·refine bk ?_
  refine lp hl166 (fun s173 a w => ∃ (ad174 : Option Addr) (cap175 : Nat) (css176 : List (List Value)) (K177 : Hp), St [] W H [K177, H] [(2, Own.rows ad174 cap175 63 5 css176 s173.2)] w ∧ Has [] 32 a [(0, .slice ad_l_0 l_0.length cap_l_0), (3, .slice ad174 s173.2.length cap175), (4, .int .i64 (s173.1 : Int))] ∧ Rows (RRequest) 5 K177 css176 s173.2) ?_ ?_
  ·intro a w hS hA
   exact ⟨none, 0, [], H, hS.selH [0, 0] rfl, hA.cut ⟨rfl, rfl, rfl, trivial⟩, hR51⟩
  ·rintro j s173 y181 hr179 hz180 a w ⟨ad174, cap175, css176, K177, hS, hA, hR178⟩
   refine TG.ap ?_ hS hA
   unfold m32_1 at hr179
   refine sq ?_
   refine sq ?_
   refine rg ?_
   refine mv rfl rfl ?_
   refine mv rfl rfl ?_
   refine lnL Tryz.underlying69 rfl rfl ?_
   refine ltI rfl rfl rfl ?_
   refine on ?_
   refine ci rfl (fun hc185 => ?_) (fun hc185 => ?_)
   ·have hr186 := if_p hc185 hr179
    refine sk ?_
    refine sq ?_
    refine bk ?_
    refine sq ?_
    refine rg ?_
    refine mv rfl rfl ?_
    refine mv rfl rfl ?_
    obtain ⟨x232, hx233, hr234⟩ := bd_some hr186
    obtain ⟨p235, rfl⟩ := h_l_0.adr hx233
    obtain ⟨cs236, hcs237, hq238, hr239⟩ := h_l_0.at hx233
    have hr240 := hr239
    obtain ⟨ad241, cap242, rfl, hl243⟩ := hr239
    have := hl243.len
    refine iaP Tryz.underlying69 Tryz.sizeOf73 rfl rfl rfl rfl (lt_of hx233) ?_
    refine ldA Tryz.isAgg73 Tryz.sizeOf73 rfl rfl (sS 1 rfl hq238) rfl ?_
    refine va (cs := [.int .i64 x232.by_, .int .i64 x232.minute, .int .i64 x232.from_, .int .i64 x232.cut, .slice ad241 x232.put_.length cap242]) Tryz.zeroValue73 Tryz.sizeOf73 rfl rfl rfl rfl rfl rfl rfl rfl fun q244 K245 hK246 => ?_
    refine on ?_
    obtain ⟨r247, hx248, hr249⟩ := bd_some hr234
    refine drG 14 T4.mixed (by kernel_rfl) rfl ?_
    refine DF.det rfl (fun a w K hS hA hF => TG.pa hS hA (mv rfl rfl fin1)) ?_
    refine DF.det rfl (fun a w K hS hA hF => TG.pa hS hA (fb 0 Tryz.underlying73 rfl rfl rfl rfl Tryz.sizeOf3 fin1)) ?_
    refine DF.det rfl (fun a w K hS hA hF => TG.pa hS hA (ld Tryz.isAgg3 rfl rfl ((sS 1 rfl hK246).take 1) rfl fin1)) ?_
    refine DF.det rfl (fun a w K hS hA hF => TG.pa hS hA (fb 1 Tryz.underlying73 rfl rfl rfl rfl Tryz.sizeOf3 fin1)) ?_
    refine DF.det rfl (fun a w K hS hA hF => TG.pa hS hA (ld Tryz.isAgg3 rfl rfl (((sS 1 rfl hK246).drop 1).take 1) rfl fin1)) ?_
    refine DF.det rfl (fun a w K hS hA hF => TG.pa hS hA (fb 2 Tryz.underlying73 rfl rfl rfl rfl Tryz.sizeOf3 fin1)) ?_
    refine DF.det rfl (fun a w K hS hA hF => TG.pa hS hA (ld Tryz.isAgg3 rfl rfl (((sS 1 rfl hK246).drop 2).take 1) rfl fin1)) ?_
    refine DF.det rfl (fun a w K hS hA hF => TG.pa hS hA (fb 3 Tryz.underlying73 rfl rfl rfl rfl Tryz.sizeOf3 fin1)) ?_
    refine DF.det rfl (fun a w K hS hA hF => TG.pa hS hA (ld Tryz.isAgg3 rfl rfl (((sS 1 rfl hK246).drop 3).take 1) rfl fin1)) ?_
    refine DF.det rfl (fun a w K hS hA hF => TG.pa hS hA (fb 4 Tryz.underlying73 rfl rfl rfl rfl Tryz.sizeOf24 fin1)) ?_
    refine DF.det rfl (fun a w K hS hA hF => TG.pa hS hA (ld Tryz.isAgg24 rfl rfl ((sS 1 rfl hK246).drop 4) rfl fin1)) ?_
    refine DF.und (α := Option Addr × Nat) (none, 0) (fun q => .slice q.1 r247.length q.2) (fun (q : Option Addr × Nat) K => Sl (Flat encS) 1 K q.1 q.2 r247) (fun _ _ _ h x => x.mono (Flat.mono _) h) (by kernel_rfl) rfl (fun a w K hS hA hF => TG.pa hS hA (clK Tryz.call21 rfl rfl rfl rfl (fun w H hH le => w21 hH (hl243.mono (Flat.mono _) (le.at 3 rfl)) hx248) (by
      rintro v_ K250 ⟨ad251, cap252, rfl, hl253⟩
      exact finU (f := fun q => .slice q.1 r247.length q.2) (G := (fun (q : Option Addr × Nat) K => Sl (Flat encS) 1 K q.1 q.2 r247)) (_, _) (fun _ _ _ h x => x.mono (Flat.mono _) h) hl253))) ?_
    rintro ⟨ad255, cap256⟩
    refine DF.und () (fun _ => .agg [.int .i64 x232.by_, .int .i64 x232.minute, .int .i64 x232.from_, .int .i64 x232.cut, .slice ad255 r247.length cap256].toArray) (fun _ K => Sl (Flat encS) 1 K ad255 cap256 r247) (fun _ _ _ h x => x.mono (Flat.mono _) h) (by kernel_rfl) rfl (fun a w K hS hA hF => TG.pa hS hA (bu (cs := [.int .i64 x232.by_, .int .i64 x232.minute, .int .i64 x232.from_, .int .i64 x232.cut, .slice ad255 r247.length cap256]) T4.B63 rfl rfl rfl (finF (f := fun _ => .agg [.int .i64 x232.by_, .int .i64 x232.minute, .int .i64 x232.from_, .int .i64 x232.cut, .slice ad255 r247.length cap256].toArray) (G := fun _ K => Sl (Flat encS) 1 K ad255 cap256 r247) () (hF.1 rfl)))) fun _ => ?_
    refine DF.und (α := Option Addr × Nat) (none, 0) (fun q => .slice q.1 1 q.2) (fun (q : Option Addr × Nat) K => Sl (RRequest) 5 K q.1 q.2 ([(⟨x232.by_, x232.minute, x232.from_, x232.cut, r247⟩ : Request)] : List Request)) (fun _ _ _ h x => x.mono (RRequest.mono) h) (by kernel_rfl) rfl (fun a w K hS hA hF => TG.pa hS hA (bS (cs := [.int .i64 x232.by_, .int .i64 x232.minute, .int .i64 x232.from_, .int .i64 x232.cut, .slice ad255 r247.length cap256]) T4.E64 rfl rfl rfl rfl fun q258 K259 hq260 hK261 => by
      refine TG.pack (fun K => Sl (RRequest) 5 K (some q258) 1 ([(⟨x232.by_, x232.minute, x232.from_, x232.cut, r247⟩ : Request)] : List Request)) (fun H le => Sl.litR (css := [[.int .i64 x232.by_, .int .i64 x232.minute, .int .i64 x232.from_, .int .i64 x232.cut, .slice ad255 r247.length cap256]]) (l := ([(⟨x232.by_, x232.minute, x232.from_, x232.cut, r247⟩ : Request)] : List Request)) ⟨⟨rfl, rfl, ⟨_, _, rfl, ((hF.1 rfl).mono (Flat.mono _) (le.at 1 rfl))⟩⟩, trivial⟩ hq260 (hK261.mono (le.at 0 rfl)) rfl) fun K263 hl262 => ?_
      have := hl262.len
      refine sk1 ?_
      exact finU (f := fun q => .slice q.1 1 q.2) (G := (fun (q : Option Addr × Nat) K => Sl (RRequest) 5 K q.1 q.2 ([(⟨x232.by_, x232.minute, x232.from_, x232.cut, r247⟩ : Request)] : List Request))) (_, _) (fun _ _ _ h x => x.mono (RRequest.mono) h) hl262)) ?_
    rintro ⟨ad265, cap266⟩
    refine DF.nil fun K267 hF => ?_
    obtain ⟨hu264, hu257, hu254, _⟩ := hF
    have := hu254.len
    have := hu264.len
    obtain ⟨hk268, hr269⟩ := chk_some hr249
    have := lenA s173.2 ([(⟨x232.by_, x232.minute, x232.from_, x232.cut, r247⟩ : Request)] : List Request)
    refine TG.pack (fun K => Sl (RRequest) 5 K ad265 cap266 ([(⟨x232.by_, x232.minute, x232.from_, x232.cut, r247⟩ : Request)] : List Request) ∧ Rows (RRequest) 5 K css176 s173.2) (fun H le => ⟨hu264.mono (RRequest.mono) (le.at 0 rfl), hR178.mono (RRequest.mono) (le.at 2 rfl)⟩) fun K272 ⟨hm273, hR274⟩ => ?_
    refine apR 2 (l := s173.2) (m := ([(⟨x232.by_, x232.minute, x232.from_, x232.cut, r247⟩ : Request)] : List Request)) T4.E64 rfl rfl rfl rfl rfl rfl hm273 hR274 RRequest.one rfl hk268 fun ad270 cap271 css276 hR275 => ?_
    refine av rfl rfl ?_
    refine on ?_
    refine rg ?_
    refine mv rfl rfl ?_
    refine adI rfl rfl rfl (by omega) ?_
    refine av rfl rfl ?_
    refine on ?_
    obtain rfl := Option.some.inj hr269
    intro a w hS hA
    exact ⟨_, hz180, ad270, cap271, css276, K272, hS.selH [0, 4] rfl, hA.cut ⟨rfl, rfl, rfl, trivial⟩, hR275⟩
   ·have hr277 := if_n hc185 hr179
    refine xt rfl ?_
    obtain rfl := Option.some.inj hr277
    obtain rfl := Fin.out hz180
    intro a w hS hA
    exact ⟨ad174, cap175, css176, K177, hS, hA.cut ⟨rfl, trivial⟩, hR178⟩
 ·rintro a w ⟨ad168, cap169, css170, K171, hS, hA, hR172⟩
  refine TG.ap ?_ hS hA
  refine sq ?_
  refine rg ?_
  refine mv rfl rfl ?_
  refine av rfl rfl ?_
  refine on ?_
  refine rt_ ?_
  obtain rfl := Option.some.inj hr167
  intro a w hS hA
  refine ret1 hA rfl rfl ?_
  exact ⟨⟨_, _, rfl, (hS.rowsOut 2 rfl 0 rfl (RRequest.mono) hR172)⟩, hS.ext⟩

theorem w33 {W : World} {H : Hp} (hH : H.le (hp W)) {cs_a_0 : List Value} (a_0 : Request) (h_a_0 : (RRequest) H cs_a_0 a_0) {cs_b_1 : List Value} (b_1 : Request) (h_b_1 : (RRequest) H cs_b_1 b_1) {r : Bool} (hr : m33 a_0 b_1 = some r) : Calls Tryz.prog 33 [.agg cs_a_0.toArray, .agg cs_b_1.toArray].toArray W (RetS W (.bool r)) := by
 have hh_a_0 := h_a_0
 obtain ⟨ad1, cap2, rfl, hl3⟩ := h_a_0
 have := hl3.len
 have hh_b_1 := h_b_1
 obtain ⟨ad4, cap5, rfl, hl6⟩ := h_b_1
 have := hl6.len
 unfold m33 at hr
 refine enterG Tryz.func33 rfl Tryz.ntmps33 rfl hH ?_
 refine sq ?_
 refine rg ?_
 refine bI (cs := [.int .i64 a_0.by_, .int .i64 a_0.minute, .int .i64 a_0.from_, .int .i64 a_0.cut, .slice ad1 a_0.put_.length cap2]) rfl rfl rfl fun q7 K8 hK9 => ?_
 refine bI (cs := [.int .i64 b_1.by_, .int .i64 b_1.minute, .int .i64 b_1.from_, .int .i64 b_1.cut, .slice ad4 b_1.put_.length cap5]) rfl rfl rfl fun q10 K11 hK12 => ?_
 refine av rfl rfl ?_
 refine on ?_
 refine sq ?_
 obtain ⟨hk13, hr14⟩ := chk_some hr
 obtain ⟨hk15, hr16⟩ := chk_some hr14
 refine drG 11 T4.mixed (by kernel_rfl) rfl ?_
 refine DF.det rfl (fun a w K hS hA hF => TG.pa hS hA (fb 2 Tryz.underlying73 rfl rfl rfl rfl Tryz.sizeOf3 fin1)) ?_
 refine DF.det rfl (fun a w K hS hA hF => TG.pa hS hA (ld Tryz.isAgg3 rfl rfl (((sS 2 rfl hK9).drop 2).take 1) rfl fin1)) ?_
 refine DF.det rfl (fun a w K hS hA hF => TG.pa hS hA (fb 3 Tryz.underlying73 rfl rfl rfl rfl Tryz.sizeOf3 fin1)) ?_
 refine DF.det rfl (fun a w K hS hA hF => TG.pa hS hA (ld Tryz.isAgg3 rfl rfl (((sS 2 rfl hK9).drop 3).take 1) rfl fin1)) ?_
 refine DF.det rfl (fun a w K hS hA hF => TG.pa hS hA (adI rfl rfl rfl hk13 fin1)) ?_
 refine DF.det rfl (fun a w K hS hA hF => TG.pa hS hA (fb 2 Tryz.underlying73 rfl rfl rfl rfl Tryz.sizeOf3 fin1)) ?_
 refine DF.det rfl (fun a w K hS hA hF => TG.pa hS hA (ld Tryz.isAgg3 rfl rfl (((sS 1 rfl hK12).drop 2).take 1) rfl fin1)) ?_
 refine DF.det rfl (fun a w K hS hA hF => TG.pa hS hA (fb 3 Tryz.underlying73 rfl rfl rfl rfl Tryz.sizeOf3 fin1)) ?_
 refine DF.det rfl (fun a w K hS hA hF => TG.pa hS hA (ld Tryz.isAgg3 rfl rfl (((sS 1 rfl hK12).drop 3).take 1) rfl fin1)) ?_
 refine DF.det rfl (fun a w K hS hA hF => TG.pa hS hA (adI rfl rfl rfl hk15 fin1)) ?_
 refine DF.det rfl (fun a w K hS hA hF => TG.pa hS hA (av rfl rfl fin1)) ?_
 refine DF.nil fun K17 hF => ?_
 refine av rfl rfl ?_
 refine on ?_
 refine sq ?_
 refine sq ?_
 obtain ⟨t21, hx22, hr23⟩ := bd_some hr16
 refine jn (fun a w => St [] W H [K17, K11, K8, H] [] w ∧ Has [] 68 a [(2, .pointer (some q7)), (3, .pointer (some q10)), (5, .int .i64 (a_0.from_ + a_0.cut)), (6, .int .i64 (b_1.from_ + b_1.cut)), (24, .bool t21)]) ?_ ?_
 ·refine rg ?_
  refine fb 3 Tryz.underlying73 rfl rfl rfl rfl Tryz.sizeOf3 ?_
  refine ld Tryz.isAgg3 rfl rfl (((sS 2 rfl hK9).drop 3).take 1) rfl ?_
  refine eqI rfl rfl rfl ?_
  refine mv rfl rfl ?_
  by_cases hb24 : a_0.cut = 0
  ·have hr25 := if_p hb24 hx22
   refine gN rfl rfl (decide_eq_true hb24) ?_
   refine fb 3 Tryz.underlying73 rfl rfl rfl rfl Tryz.sizeOf3 ?_
   refine gN rfl rfl (decide_eq_true hb24) ?_
   refine ld Tryz.isAgg3 rfl rfl (((sS 1 rfl hK12).drop 3).take 1) rfl ?_
   refine gN rfl rfl (decide_eq_true hb24) ?_
   refine eqI rfl rfl rfl ?_
   refine pT rfl rfl (decide_eq_true hb24) rfl ?_
   refine on ?_
   obtain rfl := Option.some.inj hr25
   intro a w hS hA
   exact ⟨hS, hA.cut ⟨rfl, rfl, rfl, rfl, rfl, trivial⟩⟩
  ·have hr26 := if_n hb24 hx22
   refine gF rfl rfl (decide_eq_false hb24) rfl ?_
   refine gF rfl rfl (decide_eq_false hb24) rfl ?_
   refine gF rfl rfl (decide_eq_false hb24) rfl ?_
   refine pF rfl rfl (decide_eq_false hb24) rfl ?_
   refine on ?_
   obtain rfl := Option.some.inj hr26
   intro a w hS hA
   exact ⟨hS, hA.cut ⟨rfl, rfl, rfl, rfl, rfl, trivial⟩⟩
 ·rintro a w ⟨hS, hA⟩
  refine TG.ap ?_ hS hA
  refine cb rfl (fun hc30 => ?_) (fun hc30 => ?_)
  ·have hr31 := if_p hc30 hr23
   refine sq ?_
   refine rg ?_
   refine fb 2 Tryz.underlying73 rfl rfl rfl rfl Tryz.sizeOf3 ?_
   refine ld Tryz.isAgg3 rfl rfl (((sS 2 rfl hK9).drop 2).take 1) rfl ?_
   refine fb 2 Tryz.underlying73 rfl rfl rfl rfl Tryz.sizeOf3 ?_
   refine ld Tryz.isAgg3 rfl rfl (((sS 1 rfl hK12).drop 2).take 1) rfl ?_
   refine eqI rfl rfl rfl ?_
   refine av rfl rfl ?_
   refine on ?_
   refine rt_ ?_
   obtain rfl := Option.some.inj hr31
   intro a w hS hA
   refine ret1 hA rfl rfl ?_
   exact ⟨rfl, hS.ext⟩
  ·have hr32 := if_f hc30 hr23
   refine sk ?_
   refine sq ?_
   refine sq ?_
   refine rg ?_
   refine fb 3 Tryz.underlying73 rfl rfl rfl rfl Tryz.sizeOf3 ?_
   refine ld Tryz.isAgg3 rfl rfl (((sS 2 rfl hK9).drop 3).take 1) rfl ?_
   refine eqI rfl rfl rfl ?_
   refine on ?_
   refine ci rfl (fun hc40 => ?_) (fun hc40 => ?_)
   ·have hr41 := if_p hc40 hr32
    refine sq ?_
    obtain ⟨t45, hx46, hr47⟩ := bd_some hr41
    refine jn (fun a w => St [] W H [K17, K11, K8, H] [] w ∧ Has [] 68 a [(4, .bool t45)]) ?_ ?_
    ·refine rg ?_
     refine fb 2 Tryz.underlying73 rfl rfl rfl rfl Tryz.sizeOf3 ?_
     refine ld Tryz.isAgg3 rfl rfl (((sS 2 rfl hK9).drop 2).take 1) rfl ?_
     refine fb 2 Tryz.underlying73 rfl rfl rfl rfl Tryz.sizeOf3 ?_
     refine ld Tryz.isAgg3 rfl rfl (((sS 1 rfl hK12).drop 2).take 1) rfl ?_
     refine gtI rfl rfl rfl ?_
     refine mv rfl rfl ?_
     by_cases hb48 : b_1.from_ < a_0.from_
     ·have hr49 := if_p hb48 hx46
      refine gN rfl rfl (decide_eq_true hb48) ?_
      refine fb 2 Tryz.underlying73 rfl rfl rfl rfl Tryz.sizeOf3 ?_
      refine gN rfl rfl (decide_eq_true hb48) ?_
      refine ld Tryz.isAgg3 rfl rfl (((sS 2 rfl hK9).drop 2).take 1) rfl ?_
      refine gN rfl rfl (decide_eq_true hb48) ?_
      refine mv rfl rfl ?_
      refine gN rfl rfl (decide_eq_true hb48) ?_
      refine ltI rfl rfl rfl ?_
      refine pT rfl rfl (decide_eq_true hb48) rfl ?_
      refine av rfl rfl ?_
      refine on ?_
      obtain rfl := Option.some.inj hr49
      intro a w hS hA
      exact ⟨hS, hA.cut ⟨rfl, trivial⟩⟩
     ·have hr50 := if_n hb48 hx46
      refine gF rfl rfl (decide_eq_false hb48) rfl ?_
      refine gF rfl rfl (decide_eq_false hb48) rfl ?_
      refine gF rfl rfl (decide_eq_false hb48) rfl ?_
      refine gF rfl rfl (decide_eq_false hb48) rfl ?_
      refine pF rfl rfl (decide_eq_false hb48) rfl ?_
      refine av rfl rfl ?_
      refine on ?_
      obtain rfl := Option.some.inj hr50
      intro a w hS hA
      exact ⟨hS, hA.cut ⟨rfl, trivial⟩⟩
    ·rintro a w ⟨hS, hA⟩
     refine TG.ap ?_ hS hA
     refine rt_ ?_
     obtain rfl := Option.some.inj hr47
     intro a w hS hA
     refine ret1 hA rfl rfl ?_
     exact ⟨rfl, hS.ext⟩
   ·have hr51 := if_n hc40 hr32
    refine sk ?_
    refine sq ?_
    refine sq ?_
    refine rg ?_
    refine fb 3 Tryz.underlying73 rfl rfl rfl rfl Tryz.sizeOf3 ?_
    refine ld Tryz.isAgg3 rfl rfl (((sS 1 rfl hK12).drop 3).take 1) rfl ?_
    refine eqI rfl rfl rfl ?_
    refine on ?_
    refine ci rfl (fun hc59 => ?_) (fun hc59 => ?_)
    ·have hr60 := if_p hc59 hr51
     refine sq ?_
     obtain ⟨t64, hx65, hr66⟩ := bd_some hr60
     refine jn (fun a w => St [] W H [K17, K11, K8, H] [] w ∧ Has [] 68 a [(4, .bool t64)]) ?_ ?_
     ·refine rg ?_
      refine fb 2 Tryz.underlying73 rfl rfl rfl rfl Tryz.sizeOf3 ?_
      refine ld Tryz.isAgg3 rfl rfl (((sS 1 rfl hK12).drop 2).take 1) rfl ?_
      refine fb 2 Tryz.underlying73 rfl rfl rfl rfl Tryz.sizeOf3 ?_
      refine ld Tryz.isAgg3 rfl rfl (((sS 2 rfl hK9).drop 2).take 1) rfl ?_
      refine gtI rfl rfl rfl ?_
      refine mv rfl rfl ?_
      by_cases hb67 : a_0.from_ < b_1.from_
      ·have hr68 := if_p hb67 hx65
       refine gN rfl rfl (decide_eq_true hb67) ?_
       refine fb 2 Tryz.underlying73 rfl rfl rfl rfl Tryz.sizeOf3 ?_
       refine gN rfl rfl (decide_eq_true hb67) ?_
       refine ld Tryz.isAgg3 rfl rfl (((sS 1 rfl hK12).drop 2).take 1) rfl ?_
       refine gN rfl rfl (decide_eq_true hb67) ?_
       refine mv rfl rfl ?_
       refine gN rfl rfl (decide_eq_true hb67) ?_
       refine ltI rfl rfl rfl ?_
       refine pT rfl rfl (decide_eq_true hb67) rfl ?_
       refine av rfl rfl ?_
       refine on ?_
       obtain rfl := Option.some.inj hr68
       intro a w hS hA
       exact ⟨hS, hA.cut ⟨rfl, trivial⟩⟩
      ·have hr69 := if_n hb67 hx65
       refine gF rfl rfl (decide_eq_false hb67) rfl ?_
       refine gF rfl rfl (decide_eq_false hb67) rfl ?_
       refine gF rfl rfl (decide_eq_false hb67) rfl ?_
       refine gF rfl rfl (decide_eq_false hb67) rfl ?_
       refine pF rfl rfl (decide_eq_false hb67) rfl ?_
       refine av rfl rfl ?_
       refine on ?_
       obtain rfl := Option.some.inj hr69
       intro a w hS hA
       exact ⟨hS, hA.cut ⟨rfl, trivial⟩⟩
     ·rintro a w ⟨hS, hA⟩
      refine TG.ap ?_ hS hA
      refine rt_ ?_
      obtain rfl := Option.some.inj hr66
      intro a w hS hA
      refine ret1 hA rfl rfl ?_
      exact ⟨rfl, hS.ext⟩
    ·have hr70 := if_n hc59 hr51
     refine sk ?_
     refine sq ?_
     obtain ⟨t74, hx75, hr76⟩ := bd_some hr70
     refine jn (fun a w => St [] W H [K17, K11, K8, H] [] w ∧ Has [] 68 a [(4, .bool t74)]) ?_ ?_
     ·refine rg ?_
      refine fb 2 Tryz.underlying73 rfl rfl rfl rfl Tryz.sizeOf3 ?_
      refine ld Tryz.isAgg3 rfl rfl (((sS 2 rfl hK9).drop 2).take 1) rfl ?_
      refine mv rfl rfl ?_
      refine ltI rfl rfl rfl ?_
      refine mv rfl rfl ?_
      by_cases hb77 : a_0.from_ < (b_1.from_ + b_1.cut)
      ·have hr78 := if_p hb77 hx75
       refine gN rfl rfl (decide_eq_true hb77) ?_
       refine fb 2 Tryz.underlying73 rfl rfl rfl rfl Tryz.sizeOf3 ?_
       refine gN rfl rfl (decide_eq_true hb77) ?_
       refine ld Tryz.isAgg3 rfl rfl (((sS 1 rfl hK12).drop 2).take 1) rfl ?_
       refine gN rfl rfl (decide_eq_true hb77) ?_
       refine mv rfl rfl ?_
       refine gN rfl rfl (decide_eq_true hb77) ?_
       refine ltI rfl rfl rfl ?_
       refine pT rfl rfl (decide_eq_true hb77) rfl ?_
       refine av rfl rfl ?_
       refine on ?_
       obtain rfl := Option.some.inj hr78
       intro a w hS hA
       exact ⟨hS, hA.cut ⟨rfl, trivial⟩⟩
      ·have hr79 := if_n hb77 hx75
       refine gF rfl rfl (decide_eq_false hb77) rfl ?_
       refine gF rfl rfl (decide_eq_false hb77) rfl ?_
       refine gF rfl rfl (decide_eq_false hb77) rfl ?_
       refine gF rfl rfl (decide_eq_false hb77) rfl ?_
       refine pF rfl rfl (decide_eq_false hb77) rfl ?_
       refine av rfl rfl ?_
       refine on ?_
       obtain rfl := Option.some.inj hr79
       intro a w hS hA
       exact ⟨hS, hA.cut ⟨rfl, trivial⟩⟩
     ·rintro a w ⟨hS, hA⟩
      refine TG.ap ?_ hS hA
      refine rt_ ?_
      obtain rfl := Option.some.inj hr76
      intro a w hS hA
      refine ret1 hA rfl rfl ?_
      exact ⟨rfl, hS.ext⟩

theorem w6 {W : World} {H : Hp} (hH : H.le (hp W)) (hg : Gv H) {cs_l_0 : List Value} (l_0 : Lexicon) (h_l_0 : (RLexicon) H cs_l_0 l_0) {ad_swaps : Option Addr} {cap_swaps : Nat} {swaps : List Swap} (h_swaps : Sl (Flat encSwap) 3 H ad_swaps cap_swaps swaps) {cs_r_2 : List Value} (r_2 : Report) (h_r_2 : (RReport) H cs_r_2 r_2) {ad_requests : Option Addr} {cap_requests : Nat} {requests : List Request} (h_requests : Sl (RRequest) 5 H ad_requests cap_requests requests) (at_4 : Int) {r : Bool} (hr : m6 l_0 swaps r_2 requests at_4 = some r) : Calls Tryz.prog 6 [.agg cs_l_0.toArray, .slice ad_swaps swaps.length cap_swaps, .agg cs_r_2.toArray, .slice ad_requests requests.length cap_requests, .int .u8 at_4].toArray W (RetS W (.bool r)) := by
 have hh_l_0 := h_l_0
 obtain ⟨ad1, cap2, ad4, cap5, ad7, cap8, rfl, hl3, hl6, hl9⟩ := h_l_0
 have := hl3.len
 have := hl6.len
 have := hl9.len
 have := h_swaps.len
 have hh_r_2 := h_r_2
 obtain ⟨ad10, cap11, rfl, hl12⟩ := h_r_2
 have := hl12.len
 have := h_requests.len
 unfold m6 at hr
 refine enterG Tryz.func6 rfl Tryz.ntmps6 rfl hH ?_
 refine sq ?_
 refine rg ?_
 refine bI (cs := [.slice ad1 l_0.numbers.length cap2, .slice ad4 l_0.names.length cap5, .slice ad7 l_0.nots.length cap8]) rfl rfl rfl fun q13 K14 hK15 => ?_
 refine bI (cs := [.slice ad10 r_2.words.length cap11, .int .i64 r_2.out, .int .i64 r_2.within]) rfl rfl rfl fun q16 K17 hK18 => ?_
 refine av rfl rfl ?_
 refine on ?_
 refine sq ?_
 refine sq ?_
 obtain ⟨t25, hx26, hr27⟩ := bd_some hr
 refine jn (fun a w => St [] W H [K17, K14, H] [] w ∧ Has [] 130 a [(1, .slice ad_swaps swaps.length cap_swaps), (3, .slice ad_requests requests.length cap_requests), (4, .int .u8 at_4), (5, .pointer (some q13)), (7, .pointer (some q16)), (27, .bool t25)]) ?_ ?_
 ·refine rg ?_
  refine ldA Tryz.isAgg26 Tryz.sizeOf26 rfl rfl (sS 1 rfl hK15) rfl ?_
  refine mv rfl rfl ?_
  refine ldA Tryz.isAgg68 Tryz.sizeOf68 rfl rfl (sS 0 rfl hK18) rfl ?_
  refine mv rfl rfl ?_
  obtain ⟨r28, hx29, hr30⟩ := bd_some hx26
  refine clS Tryz.call30 rfl rfl rfl rfl (fun w H hH le => w30 hH l_0 (RLexicon.mono _ _ _ _ (le.at 2 rfl) hh_l_0) (h_swaps.mono (Flat.mono _) (le.at 2 rfl)) r_2 (RReport.mono _ _ _ _ (le.at 2 rfl) hh_r_2) (h_requests.mono (RRequest.mono) (le.at 2 rfl)) hx29) ?_
  refine nt rfl rfl ?_
  refine mv rfl rfl ?_
  rcases Bool.eq_false_or_eq_true (r28) with hb31 | hb31
  ·have hr32 := if_p hb31 hr30
   refine gN rfl rfl (congrArg not (hb31)) ?_
   refine mv rfl rfl ?_
   refine gN rfl rfl (congrArg not (hb31)) ?_
   refine lnL Tryz.underlying69 rfl rfl ?_
   refine gN rfl rfl (congrArg not (hb31)) ?_
   refine eqI rfl rfl rfl ?_
   refine pF rfl rfl (congrArg not (hb31)) rfl ?_
   refine on ?_
   obtain rfl := Option.some.inj hr32
   intro a w hS hA
   exact ⟨hS, hA.cut ⟨rfl, rfl, rfl, rfl, rfl, rfl, trivial⟩⟩
  ·have hr33 := if_f hb31 hr30
   refine gF rfl rfl (congrArg not (hb31)) rfl ?_
   refine gF rfl rfl (congrArg not (hb31)) rfl ?_
   refine gF rfl rfl (congrArg not (hb31)) rfl ?_
   refine pT rfl rfl (congrArg not (hb31)) rfl ?_
   refine on ?_
   obtain rfl := Option.some.inj hr33
   intro a w hS hA
   exact ⟨hS, hA.cut ⟨rfl, rfl, rfl, rfl, rfl, rfl, trivial⟩⟩
 ·rintro a w ⟨hS, hA⟩
  refine TG.ap ?_ hS hA
  refine cb rfl (fun hc40 => ?_) (fun hc40 => ?_)
  ·have hr41 := if_p hc40 hr27
   refine sq ?_
   refine rg ?_
   obtain ⟨r42, hx43, hr44⟩ := bd_some hr41
   refine clS Tryz.call17 rfl rfl rfl rfl (fun w H hH le => w17 hH (hg.mono (le.at 2 rfl))  hx43) ?_
   refine av rfl rfl ?_
   refine on ?_
   refine rt_ ?_
   obtain rfl := Option.some.inj hr44
   intro a w hS hA
   refine ret1 hA rfl rfl ?_
   exact ⟨rfl, hS.ext⟩
  ·have hr45 := if_f hc40 hr27
   refine sk ?_
   refine sq ?_
   refine rg ?_
   refine mv rfl rfl ?_
   obtain ⟨hk46, hr47⟩ := chk_some hr45
   refine cvI Tryz.underlying5 Tryz.underlying3 rfl rfl (wr_i64 hk46) ?_
   refine mv rfl rfl ?_
   refine lnL Tryz.underlying69 rfl rfl ?_
   obtain ⟨hk48, hr49⟩ := chk_some hr47
   have : 0 ≤ (at_4 % (requests.length : Int)) ∧ (at_4 % (requests.length : Int)) < (requests.length : Int) := have h := (hk48 : 0 ≤ at_4 ∧ 0 < (requests.length : Int)); ⟨Int.emod_nonneg _ (by omega), Int.emod_lt_of_pos _ h.2⟩
   refine rmI rfl rfl rfl hk48 ?_
   refine av rfl rfl ?_
   refine on ?_
   refine sq ?_
   obtain ⟨r50, hx51, hr52⟩ := bd_some hr49
   obtain ⟨r58, hx59, hr60⟩ := bd_some hr52
   obtain ⟨r68, hx69, hr70⟩ := bd_some hr60
   obtain ⟨r76, hx77, hr78⟩ := bd_some hr70
   obtain ⟨r86, hx87, hr88⟩ := bd_some hr78
   refine drG 13 T4.mixed (by kernel_rfl) rfl ?_
   refine DF.det rfl (fun a w K hS hA hF => TG.pa hS hA (ldA Tryz.isAgg26 Tryz.sizeOf26 rfl rfl (sS 2 rfl hK15) rfl fin1)) ?_
   refine DF.und (α := List Value) [] (fun q => .agg q.toArray) (fun (q : List Value) K => (RLexicon) K q r50) (fun _ _ _ h x => RLexicon.mono _ _ _ _ h x) (by kernel_rfl) rfl (fun a w K hS hA hF => TG.pa hS hA (clK Tryz.call19 rfl rfl rfl rfl (fun w H hH le => w19 hH l_0 (RLexicon.mono _ _ _ _ (le.at 3 rfl) hh_l_0) hx51) (by
     rintro v_ K53 ⟨cs54, rfl, hr55⟩
     exact finU (f := fun q => .agg q.toArray) (G := (fun (q : List Value) K => (RLexicon) K q r50)) _ (fun _ _ _ h x => RLexicon.mono _ _ _ _ h x) hr55))) fun cs57 => ?_
   refine DF.det rfl (fun a w K hS hA hF => TG.pa hS hA (mv rfl rfl fin1)) ?_
   refine DF.und (α := Option Addr × Nat) (none, 0) (fun q => .slice q.1 r58.length q.2) (fun (q : Option Addr × Nat) K => Sl (Flat encSwap) 3 K q.1 q.2 r58) (fun _ _ _ h x => x.mono (Flat.mono _) h) (by kernel_rfl) rfl (fun a w K hS hA hF => TG.pa hS hA (clK Tryz.call20 rfl rfl rfl rfl (fun w H hH le => w20 hH (h_swaps.mono (Flat.mono _) (le.at 3 rfl)) hx59) (by
     rintro v_ K61 ⟨ad62, cap63, rfl, hl64⟩
     exact finU (f := fun q => .slice q.1 r58.length q.2) (G := (fun (q : Option Addr × Nat) K => Sl (Flat encSwap) 3 K q.1 q.2 r58)) (_, _) (fun _ _ _ h x => x.mono (Flat.mono _) h) hl64))) ?_
   rintro ⟨ad66, cap67⟩
   refine DF.det rfl (fun a w K hS hA hF => TG.pa hS hA (ldA Tryz.isAgg68 Tryz.sizeOf68 rfl rfl (sS 1 rfl hK18) rfl fin1)) ?_
   refine DF.und (α := List Value) [] (fun q => .agg q.toArray) (fun (q : List Value) K => (RReport) K q r68) (fun _ _ _ h x => RReport.mono _ _ _ _ h x) (by kernel_rfl) rfl (fun a w K hS hA hF => TG.pa hS hA (clK Tryz.call31 rfl rfl rfl rfl (fun w H hH le => w31 hH r_2 (RReport.mono _ _ _ _ (le.at 3 rfl) hh_r_2) hx69) (by
     rintro v_ K71 ⟨cs72, rfl, hr73⟩
     exact finU (f := fun q => .agg q.toArray) (G := (fun (q : List Value) K => (RReport) K q r68)) _ (fun _ _ _ h x => RReport.mono _ _ _ _ h x) hr73))) fun cs75 => ?_
   refine DF.det rfl (fun a w K hS hA hF => TG.pa hS hA (mv rfl rfl fin1)) ?_
   refine DF.und (α := Option Addr × Nat) (none, 0) (fun q => .slice q.1 r76.length q.2) (fun (q : Option Addr × Nat) K => Sl (RRequest) 5 K q.1 q.2 r76) (fun _ _ _ h x => x.mono (RRequest.mono) h) (by kernel_rfl) rfl (fun a w K hS hA hF => TG.pa hS hA (clK Tryz.call32 rfl rfl rfl rfl (fun w H hH le => w32 hH (h_requests.mono (RRequest.mono) (le.at 3 rfl)) hx77) (by
     rintro v_ K79 ⟨ad80, cap81, rfl, hl82⟩
     exact finU (f := fun q => .slice q.1 r76.length q.2) (G := (fun (q : Option Addr × Nat) K => Sl (RRequest) 5 K q.1 q.2 r76)) (_, _) (fun _ _ _ h x => x.mono (RRequest.mono) h) hl82))) ?_
   rintro ⟨ad84, cap85⟩
   refine DF.und (α := Option Addr × Nat) (none, 0) (fun q => .tuple [.slice q.1 r86.1.length q.2, .int .i64 r86.2].toArray) (fun (q : Option Addr × Nat) K => Sl (Flat (encI .i64)) 1 K q.1 q.2 r86.1) (fun _ _ _ h x => x.mono (Flat.mono _) h) (by kernel_rfl) rfl (fun a w K hS hA hF => TG.pa hS hA (clK Tryz.call29 rfl rfl rfl rfl (fun w H hH le => w29 hH (hg.mono (le.at 3 rfl)) r50 (RLexicon.mono _ _ _ _ (le.at 0 rfl) (hF.2.2.2.1 rfl)) ((hF.2.2.1 rfl).mono (Flat.mono _) (le.at 0 rfl)) r68 (RReport.mono _ _ _ _ (le.at 0 rfl) (hF.2.1 rfl)) ((hF.1 rfl).mono (RRequest.mono) (le.at 0 rfl)) hx87) (by
     rintro v_ K89 ⟨ad90, cap91, rfl, hl92⟩
     exact finU (f := fun q => .tuple [.slice q.1 r86.1.length q.2, .int .i64 r86.2].toArray) (G := (fun (q : Option Addr × Nat) K => Sl (Flat (encI .i64)) 1 K q.1 q.2 r86.1)) (ad90, cap91) (fun _ _ _ h x => x.mono (Flat.mono _) h) hl92))) ?_
   rintro ⟨ad94, cap95⟩
   refine DF.und () (fun _ => .tuple [.slice ad94 r86.1.length cap95, .int .i64 r86.2].toArray) (fun _ K => Sl (Flat (encI .i64)) 1 K ad94 cap95 r86.1) (fun _ _ _ h x => x.mono (Flat.mono _) h) (by kernel_rfl) rfl (fun a w K hS hA hF => TG.pa hS hA (mv rfl rfl (finF (f := fun _ => .tuple [.slice ad94 r86.1.length cap95, .int .i64 r86.2].toArray) (G := fun _ K => Sl (Flat (encI .i64)) 1 K ad94 cap95 r86.1) () (hF.1 rfl)))) fun _ => ?_
   refine DF.und () (fun _ => .slice ad94 r86.1.length cap95) (fun _ K => Sl (Flat (encI .i64)) 1 K ad94 cap95 r86.1) (fun _ _ _ h x => x.mono (Flat.mono _) h) (by kernel_rfl) rfl (fun a w K hS hA hF => TG.pa hS hA (ex rfl rfl rfl (finF (f := fun _ => .slice ad94 r86.1.length cap95) (G := fun _ K => Sl (Flat (encI .i64)) 1 K ad94 cap95 r86.1) () (hF.1 rfl)))) fun _ => ?_
   refine DF.det rfl (fun a w K hS hA hF => TG.pa hS hA (ex rfl rfl rfl fin1)) ?_
   refine DF.und () (fun _ => .slice ad94 r86.1.length cap95) (fun _ K => Sl (Flat (encI .i64)) 1 K ad94 cap95 r86.1) (fun _ _ _ h x => x.mono (Flat.mono _) h) (by kernel_rfl) rfl (fun a w K hS hA hF => TG.pa hS hA (av rfl rfl (finF (f := fun _ => .slice ad94 r86.1.length cap95) (G := fun _ K => Sl (Flat (encI .i64)) 1 K ad94 cap95 r86.1) () (hF.1 rfl)))) fun _ => ?_
   refine DF.nil fun K99 hF => ?_
   obtain ⟨hu98, hu97, hu96, hu93, hu83, hu74, hu65, hu56, _⟩ := hF
   have hr100 := hu56
   obtain ⟨ad101, cap102, ad104, cap105, ad107, cap108, rfl, hl103, hl106, hl109⟩ := hu56
   have := hl103.len
   have := hl106.len
   have := hl109.len
   have := hu65.len
   have hr110 := hu74
   obtain ⟨ad111, cap112, rfl, hl113⟩ := hu74
   have := hl113.len
   have := hu83.len
   have := hu93.len
   refine av rfl rfl ?_
   refine on ?_
   refine sq ?_
   obtain ⟨hk131, hr132⟩ := chk_some hr88
   obtain ⟨r139, hx140, hr141⟩ := bd_some hr132
   obtain ⟨r149, hx150, hr151⟩ := bd_some hr141
   refine drG 17 T4.mixed (by kernel_rfl) rfl ?_
   refine DF.det rfl (fun a w K hS hA hF => TG.pa hS hA (ldA Tryz.isAgg26 Tryz.sizeOf26 rfl rfl (sS 3 rfl hK15) rfl fin1)) ?_
   refine DF.und (α := List Value) [] (fun q => .agg q.toArray) (fun (q : List Value) K => (RLexicon) K q r50) (fun _ _ _ h x => RLexicon.mono _ _ _ _ h x) (by kernel_rfl) rfl (fun a w K hS hA hF => TG.pa hS hA (clK Tryz.call19 rfl rfl rfl rfl (fun w H hH le => w19 hH l_0 (RLexicon.mono _ _ _ _ (le.at 4 rfl) hh_l_0) hx51) (by
     rintro v_ K114 ⟨cs115, rfl, hr116⟩
     exact finU (f := fun q => .agg q.toArray) (G := (fun (q : List Value) K => (RLexicon) K q r50)) _ (fun _ _ _ h x => RLexicon.mono _ _ _ _ h x) hr116))) fun cs118 => ?_
   refine DF.det rfl (fun a w K hS hA hF => TG.pa hS hA (mv rfl rfl fin1)) ?_
   refine DF.und (α := Option Addr × Nat) (none, 0) (fun q => .slice q.1 r58.length q.2) (fun (q : Option Addr × Nat) K => Sl (Flat encSwap) 3 K q.1 q.2 r58) (fun _ _ _ h x => x.mono (Flat.mono _) h) (by kernel_rfl) rfl (fun a w K hS hA hF => TG.pa hS hA (clK Tryz.call20 rfl rfl rfl rfl (fun w H hH le => w20 hH (h_swaps.mono (Flat.mono _) (le.at 4 rfl)) hx59) (by
     rintro v_ K119 ⟨ad120, cap121, rfl, hl122⟩
     exact finU (f := fun q => .slice q.1 r58.length q.2) (G := (fun (q : Option Addr × Nat) K => Sl (Flat encSwap) 3 K q.1 q.2 r58)) (_, _) (fun _ _ _ h x => x.mono (Flat.mono _) h) hl122))) ?_
   rintro ⟨ad124, cap125⟩
   refine DF.det rfl (fun a w K hS hA hF => TG.pa hS hA (ldA Tryz.isAgg68 Tryz.sizeOf68 rfl rfl (sS 2 rfl hK18) rfl fin1)) ?_
   refine DF.und (α := List Value) [] (fun q => .agg q.toArray) (fun (q : List Value) K => (RReport) K q r68) (fun _ _ _ h x => RReport.mono _ _ _ _ h x) (by kernel_rfl) rfl (fun a w K hS hA hF => TG.pa hS hA (clK Tryz.call31 rfl rfl rfl rfl (fun w H hH le => w31 hH r_2 (RReport.mono _ _ _ _ (le.at 4 rfl) hh_r_2) hx69) (by
     rintro v_ K126 ⟨cs127, rfl, hr128⟩
     exact finU (f := fun q => .agg q.toArray) (G := (fun (q : List Value) K => (RReport) K q r68)) _ (fun _ _ _ h x => RReport.mono _ _ _ _ h x) hr128))) fun cs130 => ?_
   refine DF.det rfl (fun a w K hS hA hF => TG.pa hS hA (mv rfl rfl fin1)) ?_
   refine DF.det rfl (fun a w K hS hA hF => TG.pa hS hA (mv rfl rfl fin1)) ?_
   refine DF.det rfl (fun a w K hS hA hF => TG.pa hS hA (mv rfl rfl fin1)) ?_
   refine DF.det rfl (fun a w K hS hA hF => TG.pa hS hA (adI rfl rfl rfl (by omega) fin1)) ?_
   refine DF.und (α := Option Addr × Nat) (none, 0) (fun q => .slice q.1 (((requests.drop ((at_4 % (requests.length : Int)).toNat)).take (((at_4 % (requests.length : Int)) + 1).toNat - ((at_4 % (requests.length : Int)).toNat))).length) q.2) (fun (q : Option Addr × Nat) K => Sl (RRequest) 5 K q.1 q.2 ((requests.drop ((at_4 % (requests.length : Int)).toNat)).take (((at_4 % (requests.length : Int)) + 1).toNat - ((at_4 % (requests.length : Int)).toNat)))) (fun _ _ _ h x => x.mono (RRequest.mono) h) (by kernel_rfl) rfl (fun a w K hS hA hF => TG.pa hS hA (slB ((at_4 % (requests.length : Int)).toNat) (((at_4 % (requests.length : Int)) + 1).toNat) Tryz.underlying69 Tryz.sizeOf73 h_requests rfl rfl rfl rfl rfl (by omega) (by omega) hk131 fun ad133 cap134 hl135 => TG.pack (fun K => Sl (RRequest) 5 K ad133 cap134 ((requests.drop ((at_4 % (requests.length : Int)).toNat)).take (((at_4 % (requests.length : Int)) + 1).toNat - ((at_4 % (requests.length : Int)).toNat)))) (fun H le => hl135.mono (RRequest.mono) (le.at 4 rfl)) fun _ hl135 => finU (f := fun q => .slice q.1 (((requests.drop ((at_4 % (requests.length : Int)).toNat)).take (((at_4 % (requests.length : Int)) + 1).toNat - ((at_4 % (requests.length : Int)).toNat))).length) q.2) (G := (fun (q : Option Addr × Nat) K => Sl (RRequest) 5 K q.1 q.2 ((requests.drop ((at_4 % (requests.length : Int)).toNat)).take (((at_4 % (requests.length : Int)) + 1).toNat - ((at_4 % (requests.length : Int)).toNat))))) (_, _) (fun _ _ _ h x => x.mono (RRequest.mono) h) hl135)) ?_
   rintro ⟨ad137, cap138⟩
   refine DF.und (α := Option Addr × Nat) (none, 0) (fun q => .slice q.1 r139.length q.2) (fun (q : Option Addr × Nat) K => Sl (RRequest) 5 K q.1 q.2 r139) (fun _ _ _ h x => x.mono (RRequest.mono) h) (by kernel_rfl) rfl (fun a w K hS hA hF => TG.pa hS hA (clK Tryz.call32 rfl rfl rfl rfl (fun w H hH le => w32 hH ((hF.1 rfl).mono (RRequest.mono) (le.at 0 rfl)) hx140) (by
     rintro v_ K142 ⟨ad143, cap144, rfl, hl145⟩
     exact finU (f := fun q => .slice q.1 r139.length q.2) (G := (fun (q : Option Addr × Nat) K => Sl (RRequest) 5 K q.1 q.2 r139)) (_, _) (fun _ _ _ h x => x.mono (RRequest.mono) h) hl145))) ?_
   rintro ⟨ad147, cap148⟩
   refine DF.und (α := Option Addr × Nat) (none, 0) (fun q => .tuple [.slice q.1 r149.1.length q.2, .int .i64 r149.2].toArray) (fun (q : Option Addr × Nat) K => Sl (Flat (encI .i64)) 1 K q.1 q.2 r149.1) (fun _ _ _ h x => x.mono (Flat.mono _) h) (by kernel_rfl) rfl (fun a w K hS hA hF => TG.pa hS hA (clK Tryz.call29 rfl rfl rfl rfl (fun w H hH le => w29 hH (hg.mono (le.at 4 rfl)) r50 (RLexicon.mono _ _ _ _ (le.at 0 rfl) (hF.2.2.2.2.1 rfl)) ((hF.2.2.2.1 rfl).mono (Flat.mono _) (le.at 0 rfl)) r68 (RReport.mono _ _ _ _ (le.at 0 rfl) (hF.2.2.1 rfl)) ((hF.1 rfl).mono (RRequest.mono) (le.at 0 rfl)) hx150) (by
     rintro v_ K152 ⟨ad153, cap154, rfl, hl155⟩
     exact finU (f := fun q => .tuple [.slice q.1 r149.1.length q.2, .int .i64 r149.2].toArray) (G := (fun (q : Option Addr × Nat) K => Sl (Flat (encI .i64)) 1 K q.1 q.2 r149.1)) (ad153, cap154) (fun _ _ _ h x => x.mono (Flat.mono _) h) hl155))) ?_
   rintro ⟨ad157, cap158⟩
   refine DF.und () (fun _ => .tuple [.slice ad157 r149.1.length cap158, .int .i64 r149.2].toArray) (fun _ K => Sl (Flat (encI .i64)) 1 K ad157 cap158 r149.1) (fun _ _ _ h x => x.mono (Flat.mono _) h) (by kernel_rfl) rfl (fun a w K hS hA hF => TG.pa hS hA (mv rfl rfl (finF (f := fun _ => .tuple [.slice ad157 r149.1.length cap158, .int .i64 r149.2].toArray) (G := fun _ K => Sl (Flat (encI .i64)) 1 K ad157 cap158 r149.1) () (hF.1 rfl)))) fun _ => ?_
   refine DF.und () (fun _ => .slice ad157 r149.1.length cap158) (fun _ K => Sl (Flat (encI .i64)) 1 K ad157 cap158 r149.1) (fun _ _ _ h x => x.mono (Flat.mono _) h) (by kernel_rfl) rfl (fun a w K hS hA hF => TG.pa hS hA (ex rfl rfl rfl (finF (f := fun _ => .slice ad157 r149.1.length cap158) (G := fun _ K => Sl (Flat (encI .i64)) 1 K ad157 cap158 r149.1) () (hF.1 rfl)))) fun _ => ?_
   refine DF.det rfl (fun a w K hS hA hF => TG.pa hS hA (ex rfl rfl rfl fin1)) ?_
   refine DF.und () (fun _ => .slice ad157 r149.1.length cap158) (fun _ K => Sl (Flat (encI .i64)) 1 K ad157 cap158 r149.1) (fun _ _ _ h x => x.mono (Flat.mono _) h) (by kernel_rfl) rfl (fun a w K hS hA hF => TG.pa hS hA (av rfl rfl (finF (f := fun _ => .slice ad157 r149.1.length cap158) (G := fun _ K => Sl (Flat (encI .i64)) 1 K ad157 cap158 r149.1) () (hF.1 rfl)))) fun _ => ?_
   refine DF.nil fun K162 hF => ?_
   obtain ⟨hu161, hu160, hu159, hu156, hu146, hu136, hu129, hu123, hu117, _⟩ := hF
   have hr163 := hu117
   obtain ⟨ad164, cap165, ad167, cap168, ad170, cap171, rfl, hl166, hl169, hl172⟩ := hu117
   have := hl166.len
   have := hl169.len
   have := hl172.len
   have := hu123.len
   have hr173 := hu129
   obtain ⟨ad174, cap175, rfl, hl176⟩ := hu129
   have := hl176.len
   have := hu136.len
   have := hu146.len
   have := hu156.len
   refine av rfl rfl ?_
   refine on ?_
   refine sq ?_
   refine sq ?_
   obtain ⟨t186, hx187, hr188⟩ := bd_some hr151
   refine jn (fun a w => St [] W H [K162, K99, K17, K14, H] [] w ∧ Has [] 130 a [(3, .slice ad_requests requests.length cap_requests), (11, .int .i64 (at_4 % (requests.length : Int))), (12, .slice ad94 r86.1.length cap95), (14, .slice ad157 r149.1.length cap158), (79, .bool t186)]) ?_ ?_
   ·refine rg ?_
    refine mv rfl rfl ?_
    refine neI rfl rfl rfl ?_
    refine mv rfl rfl ?_
    by_cases hb189 : r86.2 ≠ 0
    ·have hr190 := if_p hb189 hx187
     refine gF rfl rfl (decide_eq_true hb189) rfl ?_
     refine gF rfl rfl (decide_eq_true hb189) rfl ?_
     refine pT rfl rfl (decide_eq_true hb189) rfl ?_
     refine mv rfl rfl ?_
     refine gF rfl rfl rfl rfl ?_
     refine gF rfl rfl rfl rfl ?_
     refine gF rfl rfl rfl rfl ?_
     refine gF rfl rfl rfl rfl ?_
     refine gF rfl rfl rfl rfl ?_
     refine pT rfl rfl rfl rfl ?_
     refine mv rfl rfl ?_
     refine gF rfl rfl rfl rfl ?_
     refine gF rfl rfl rfl rfl ?_
     refine gF rfl rfl rfl rfl ?_
     refine pT rfl rfl rfl rfl ?_
     refine on ?_
     obtain rfl := Option.some.inj hr190
     intro a w hS hA
     exact ⟨hS, hA.cut ⟨rfl, rfl, rfl, rfl, rfl, trivial⟩⟩
    ·have hr191 := if_n hb189 hx187
     refine gN rfl rfl (decide_eq_false hb189) ?_
     refine mv rfl rfl ?_
     refine gN rfl rfl (decide_eq_false hb189) ?_
     refine neI rfl rfl rfl ?_
     refine pF rfl rfl (decide_eq_false hb189) rfl ?_
     refine mv rfl rfl ?_
     by_cases hb192 : r149.2 ≠ 0
     ·have hr193 := if_p hb192 hr191
      refine gF rfl rfl (decide_eq_true hb192) rfl ?_
      refine gF rfl rfl (decide_eq_true hb192) rfl ?_
      refine gF rfl rfl (decide_eq_true hb192) rfl ?_
      refine gF rfl rfl (decide_eq_true hb192) rfl ?_
      refine gF rfl rfl (decide_eq_true hb192) rfl ?_
      refine pT rfl rfl (decide_eq_true hb192) rfl ?_
      refine mv rfl rfl ?_
      refine gF rfl rfl rfl rfl ?_
      refine gF rfl rfl rfl rfl ?_
      refine gF rfl rfl rfl rfl ?_
      refine pT rfl rfl rfl rfl ?_
      refine on ?_
      obtain rfl := Option.some.inj hr193
      intro a w hS hA
      exact ⟨hS, hA.cut ⟨rfl, rfl, rfl, rfl, rfl, trivial⟩⟩
     ·have hr194 := if_n hb192 hr191
      refine gN rfl rfl (decide_eq_false hb192) ?_
      refine mv rfl rfl ?_
      refine gN rfl rfl (decide_eq_false hb192) ?_
      refine lnL Tryz.underlying59 rfl rfl ?_
      refine gN rfl rfl (decide_eq_false hb192) ?_
      refine mv rfl rfl ?_
      refine gN rfl rfl (decide_eq_false hb192) ?_
      refine lnL Tryz.underlying69 rfl rfl ?_
      refine gN rfl rfl (decide_eq_false hb192) ?_
      refine neI rfl rfl rfl ?_
      refine pF rfl rfl (decide_eq_false hb192) rfl ?_
      refine mv rfl rfl ?_
      by_cases hb195 : (r86.1.length : Int) ≠ (requests.length : Int)
      ·have hr196 := if_p hb195 hr194
       refine gF rfl rfl (decide_eq_true hb195) rfl ?_
       refine gF rfl rfl (decide_eq_true hb195) rfl ?_
       refine gF rfl rfl (decide_eq_true hb195) rfl ?_
       refine pT rfl rfl (decide_eq_true hb195) rfl ?_
       refine on ?_
       obtain rfl := Option.some.inj hr196
       intro a w hS hA
       exact ⟨hS, hA.cut ⟨rfl, rfl, rfl, rfl, rfl, trivial⟩⟩
      ·have hr197 := if_n hb195 hr194
       refine gN rfl rfl (decide_eq_false hb195) ?_
       refine mv rfl rfl ?_
       refine gN rfl rfl (decide_eq_false hb195) ?_
       refine lnL Tryz.underlying59 rfl rfl ?_
       refine gN rfl rfl (decide_eq_false hb195) ?_
       refine neI rfl rfl rfl ?_
       refine pF rfl rfl (decide_eq_false hb195) rfl ?_
       refine on ?_
       obtain rfl := Option.some.inj hr197
       intro a w hS hA
       exact ⟨hS, hA.cut ⟨rfl, rfl, rfl, rfl, rfl, trivial⟩⟩
   ·rintro a w ⟨hS, hA⟩
    refine TG.ap ?_ hS hA
    refine cb rfl (fun hc201 => ?_) (fun hc201 => ?_)
    ·have hr202 := if_p hc201 hr188
     refine sq ?_
     refine rg ?_
     refine av rfl rfl ?_
     refine on ?_
     refine rt_ ?_
     obtain rfl := Option.some.inj hr202
     intro a w hS hA
     refine ret1 hA rfl rfl ?_
     exact ⟨rfl, hS.ext⟩
    ·have hr203 := if_f hc201 hr188
     refine sk ?_
     refine sq ?_
     refine sq ?_
     refine rg ?_
     refine mv rfl rfl ?_
     refine mv rfl rfl ?_
     obtain ⟨x204, hx205, hr206⟩ := bd_some hr203
     obtain ⟨p207, rfl⟩ := hu98.adr hx205
     obtain ⟨cs208, hcs209, hq210, hr211⟩ := hu98.at hx205
     obtain rfl := hr211
     refine iaP Tryz.underlying59 Tryz.sizeOf31 rfl rfl rfl (by omega) (lt_of hx205) ?_
     refine ld Tryz.isAgg31 rfl rfl (sS 1 rfl hq210) rfl ?_
     refine neI rfl rfl rfl ?_
     refine on ?_
     refine ci rfl (fun hc231 => ?_) (fun hc231 => ?_)
     ·have hr232 := if_p hc231 hr206
      refine sq ?_
      obtain ⟨t248, hx249, hr250⟩ := bd_some hr232
      refine jn (fun a w => St [] W H [K162, K99, K17, K14, H] [] w ∧ Has [] 130 a [(10, .bool t248)]) ?_ ?_
      ·obtain ⟨x251, hx252, hr253⟩ := bd_some hx249
       obtain ⟨p254, rfl⟩ := hu161.adr hx252
       obtain ⟨cs255, hcs256, hq257, hr258⟩ := hu161.at hx252
       obtain rfl := hr258
       refine drG 7 T4.mixed (by kernel_rfl) rfl ?_
       refine DF.det rfl (fun a w K hS hA hF => TG.pa hS hA (mv rfl rfl fin1)) ?_
       refine DF.det rfl (fun a w K hS hA hF => TG.pa hS hA (iaP Tryz.underlying59 Tryz.sizeOf31 rfl rfl rfl rfl (lt_of hx252) fin1)) ?_
       refine DF.det rfl (fun a w K hS hA hF => TG.pa hS hA (ld Tryz.isAgg31 rfl rfl (sS 1 rfl hq257) rfl fin1)) ?_
       refine DF.det rfl (fun a w K hS hA hF => TG.pa hS hA (mv rfl rfl fin1)) ?_
       refine DF.det rfl (fun a w K hS hA hF => TG.pa hS hA (mv rfl rfl fin1)) ?_
       refine DF.det rfl (fun a w K hS hA hF => TG.pa hS hA (iaP Tryz.underlying59 Tryz.sizeOf31 rfl rfl rfl (by omega) (lt_of hx205) fin1)) ?_
       refine DF.det rfl (fun a w K hS hA hF => TG.pa hS hA (ld Tryz.isAgg31 rfl rfl (sS 2 rfl hq210) rfl fin1)) ?_
       refine DF.nil fun K259 hF => ?_
       refine eqI rfl rfl rfl ?_
       refine mv rfl rfl ?_
       by_cases hb260 : x251 = x204
       ·have hr261 := if_p hb260 hr253
        refine gN rfl rfl (decide_eq_true hb260) ?_
        obtain ⟨r262, hx263, hr264⟩ := bd_some hr261
        refine clS Tryz.call17 rfl rfl rfl rfl (fun w H hH le => w17 hH (hg.mono (le.at 5 rfl))  hx263) ?_
        refine pT rfl rfl (decide_eq_true hb260) rfl ?_
        refine av rfl rfl ?_
        refine on ?_
        obtain rfl := Option.some.inj hr264
        intro a w hS hA
        exact ⟨hS.selH [1, 2, 3, 4, 5] rfl, hA.cut ⟨rfl, trivial⟩⟩
       ·have hr265 := if_n hb260 hr253
        refine gF rfl rfl (decide_eq_false hb260) rfl ?_
        refine pF rfl rfl (decide_eq_false hb260) rfl ?_
        refine av rfl rfl ?_
        refine on ?_
        obtain rfl := Option.some.inj hr265
        intro a w hS hA
        exact ⟨hS.selH [1, 2, 3, 4, 5] rfl, hA.cut ⟨rfl, trivial⟩⟩
      ·rintro a w ⟨hS, hA⟩
       refine TG.ap ?_ hS hA
       refine rt_ ?_
       obtain rfl := Option.some.inj hr250
       intro a w hS hA
       refine ret1 hA rfl rfl ?_
       exact ⟨rfl, hS.ext⟩
     ·have hr266 := if_n hc231 hr206
      refine sk ?_
      refine sq ?_
      refine sq ?_
      refine rg ?_
      refine av rfl rfl ?_
      refine on ?_
      obtain ⟨e332, hl333, hr334⟩ := bd_some hr266
      refine jn (fun a w => ∃ t335, e332 = .inl t335 ∧ St [] W H [K162, K99, K17, K14, H] [] w ∧ Has [] 130 a []) ?_ ?_
      ·refine bk ?_
       refine lp hl333 (fun s336 a w => St [] W H [K162, K99, K17, K14, H] [] w ∧ Has [] 130 a [(3, .slice ad_requests requests.length cap_requests), (11, .int .i64 (at_4 % (requests.length : Int))), (12, .slice (some p207) r86.1.length cap95), (14, .slice ad157 r149.1.length cap158), (16, .int .i64 (s336 : Int))]) ?_ ?_
       ·intro a w hS hA
        exact ⟨hS, hA.cut ⟨rfl, rfl, rfl, rfl, rfl, trivial⟩⟩
       ·rintro j s336 y339 hr337 hz338 a w ⟨hS, hA⟩
        refine TG.ap ?_ hS hA
        unfold m6_1 at hr337
        refine sq ?_
        refine sq ?_
        refine rg ?_
        refine mv rfl rfl ?_
        refine mv rfl rfl ?_
        refine lnL Tryz.underlying69 rfl rfl ?_
        refine ltI rfl rfl rfl ?_
        refine on ?_
        refine ci rfl (fun hc343 => ?_) (fun hc343 => ?_)
        ·have hr344 := if_p hc343 hr337
         refine sk ?_
         refine sq ?_
         refine bk ?_
         refine sq ?_
         obtain ⟨t448, hx449, hr450⟩ := bd_some hr344
         refine jn (fun a w => St [] W H [K162, K99, K17, K14, H] [] w ∧ Has [] 130 a [(3, .slice ad_requests requests.length cap_requests), (11, .int .i64 (at_4 % (requests.length : Int))), (12, .slice (some p207) r86.1.length cap95), (14, .slice ad157 r149.1.length cap158), (16, .int .i64 (s336 : Int)), (122, .bool t448)]) ?_ ?_
         ·by_cases hb451 : (s336 : Int) ≠ (at_4 % (requests.length : Int))
          ·have hr452 := if_p hb451 hx449
           obtain ⟨x453, hx454, hr455⟩ := bd_some hr452
           obtain ⟨cs456, hcs457, hq458, hr459⟩ := hu98.at hx454
           obtain rfl := hr459
           by_cases hb460 : x453 = 0
           ·have hr461 := if_p hb460 hr455
            obtain ⟨x462, hx463, hr464⟩ := bd_some hr461
            obtain ⟨p465, rfl⟩ := h_requests.adr hx463
            obtain ⟨cs466, hcs467, hq468, hr469⟩ := h_requests.at hx463
            have hr470 := hr469
            obtain ⟨ad471, cap472, rfl, hl473⟩ := hr469
            have := hl473.len
            obtain ⟨x474, hx475, hr476⟩ := bd_some hr464
            obtain ⟨cs477, hcs478, hq479, hr480⟩ := h_requests.at hx475
            have hr481 := hr480
            obtain ⟨ad482, cap483, rfl, hl484⟩ := hr480
            have := hl484.len
            refine drG 19 T4.mixed (by kernel_rfl) rfl ?_
            refine DF.det rfl (fun a w K hS hA hF => TG.pa hS hA (mv rfl rfl fin1)) ?_
            refine DF.det rfl (fun a w K hS hA hF => TG.pa hS hA (mv rfl rfl fin1)) ?_
            refine DF.det rfl (fun a w K hS hA hF => TG.pa hS hA (neI rfl rfl rfl fin1)) ?_
            refine DF.det rfl (fun a w K hS hA hF => TG.pa hS hA (mv rfl rfl fin1)) ?_
            refine DF.det rfl (fun a w K hS hA hF => TG.pa hS hA (gN rfl rfl (decide_eq_true hb451) (mv rfl rfl fin1))) ?_
            refine DF.det rfl (fun a w K hS hA hF => TG.pa hS hA (gN rfl rfl (decide_eq_true hb451) (mv rfl rfl fin1))) ?_
            refine DF.det rfl (fun a w K hS hA hF => TG.pa hS hA (gN rfl rfl (decide_eq_true hb451) (iaP Tryz.underlying59 Tryz.sizeOf31 rfl rfl rfl rfl (lt_of hx454) fin1))) ?_
            refine DF.det rfl (fun a w K hS hA hF => TG.pa hS hA (gN rfl rfl (decide_eq_true hb451) (ld Tryz.isAgg31 rfl rfl (sS 2 rfl hq458) rfl fin1))) ?_
            refine DF.det rfl (fun a w K hS hA hF => TG.pa hS hA (gN rfl rfl (decide_eq_true hb451) (eqI rfl rfl rfl fin1))) ?_
            refine DF.det rfl (fun a w K hS hA hF => TG.pa hS hA (pT rfl rfl (decide_eq_true hb451) rfl fin1)) ?_
            refine DF.det rfl (fun a w K hS hA hF => TG.pa hS hA (mv rfl rfl fin1)) ?_
            refine DF.det rfl (fun a w K hS hA hF => TG.pa hS hA (gN rfl rfl (decide_eq_true hb460) (mv rfl rfl fin1))) ?_
            refine DF.det rfl (fun a w K hS hA hF => TG.pa hS hA (gN rfl rfl (decide_eq_true hb460) (mv rfl rfl fin1))) ?_
            refine DF.det rfl (fun a w K hS hA hF => TG.pa hS hA (gN rfl rfl (decide_eq_true hb460) (iaP Tryz.underlying69 Tryz.sizeOf73 rfl rfl rfl rfl (lt_of hx463) fin1))) ?_
            refine DF.det rfl (fun a w K hS hA hF => TG.pa hS hA (gN rfl rfl (decide_eq_true hb460) (ldA Tryz.isAgg73 Tryz.sizeOf73 rfl rfl (sS 5 rfl hq468) rfl fin1))) ?_
            refine DF.det rfl (fun a w K hS hA hF => TG.pa hS hA (gN rfl rfl (decide_eq_true hb460) (mv rfl rfl fin1))) ?_
            refine DF.det rfl (fun a w K hS hA hF => TG.pa hS hA (gN rfl rfl (decide_eq_true hb460) (mv rfl rfl fin1))) ?_
            refine DF.det rfl (fun a w K hS hA hF => TG.pa hS hA (gN rfl rfl (decide_eq_true hb460) (iaP Tryz.underlying69 Tryz.sizeOf73 rfl rfl rfl (by omega) (lt_of hx475) fin1))) ?_
            refine DF.det rfl (fun a w K hS hA hF => TG.pa hS hA (gN rfl rfl (decide_eq_true hb460) (ldA Tryz.isAgg73 Tryz.sizeOf73 rfl rfl (sS 5 rfl hq479) rfl fin1))) ?_
            refine DF.nil fun K485 hF => ?_
            refine gN rfl rfl (decide_eq_true hb460) ?_
            obtain ⟨r486, hx487, hr488⟩ := bd_some hr476
            refine clS Tryz.call33 rfl rfl rfl rfl (fun w H hH le => w33 hH x462 (RRequest.mono _ _ _ _ (le.at 5 rfl) hr470) x474 (RRequest.mono _ _ _ _ (le.at 5 rfl) hr481) hx487) ?_
            refine pT rfl rfl (decide_eq_true hb460) rfl ?_
            refine on ?_
            obtain rfl := Option.some.inj hr488
            intro a w hS hA
            exact ⟨hS.selH [1, 2, 3, 4, 5] rfl, hA.cut ⟨rfl, rfl, rfl, rfl, rfl, rfl, trivial⟩⟩
           ·have hr489 := if_n hb460 hr455
            refine drG 19 T4.mixed (by kernel_rfl) rfl ?_
            refine DF.det rfl (fun a w K hS hA hF => TG.pa hS hA (mv rfl rfl fin1)) ?_
            refine DF.det rfl (fun a w K hS hA hF => TG.pa hS hA (mv rfl rfl fin1)) ?_
            refine DF.det rfl (fun a w K hS hA hF => TG.pa hS hA (neI rfl rfl rfl fin1)) ?_
            refine DF.det rfl (fun a w K hS hA hF => TG.pa hS hA (mv rfl rfl fin1)) ?_
            refine DF.det rfl (fun a w K hS hA hF => TG.pa hS hA (gN rfl rfl (decide_eq_true hb451) (mv rfl rfl fin1))) ?_
            refine DF.det rfl (fun a w K hS hA hF => TG.pa hS hA (gN rfl rfl (decide_eq_true hb451) (mv rfl rfl fin1))) ?_
            refine DF.det rfl (fun a w K hS hA hF => TG.pa hS hA (gN rfl rfl (decide_eq_true hb451) (iaP Tryz.underlying59 Tryz.sizeOf31 rfl rfl rfl rfl (lt_of hx454) fin1))) ?_
            refine DF.det rfl (fun a w K hS hA hF => TG.pa hS hA (gN rfl rfl (decide_eq_true hb451) (ld Tryz.isAgg31 rfl rfl (sS 2 rfl hq458) rfl fin1))) ?_
            refine DF.det rfl (fun a w K hS hA hF => TG.pa hS hA (gN rfl rfl (decide_eq_true hb451) (eqI rfl rfl rfl fin1))) ?_
            refine DF.det rfl (fun a w K hS hA hF => TG.pa hS hA (pT rfl rfl (decide_eq_true hb451) rfl fin1)) ?_
            refine DF.det rfl (fun a w K hS hA hF => TG.pa hS hA (mv rfl rfl fin1)) ?_
            refine DF.det rfl (fun a w K hS hA hF => TG.pa hS hA (gF rfl rfl (decide_eq_false hb460) rfl fin1)) ?_
            refine DF.det rfl (fun a w K hS hA hF => TG.pa hS hA (gF rfl rfl (decide_eq_false hb460) rfl fin1)) ?_
            refine DF.det rfl (fun a w K hS hA hF => TG.pa hS hA (gF rfl rfl (decide_eq_false hb460) rfl fin1)) ?_
            refine DF.det rfl (fun a w K hS hA hF => TG.pa hS hA (gF rfl rfl (decide_eq_false hb460) rfl fin1)) ?_
            refine DF.det rfl (fun a w K hS hA hF => TG.pa hS hA (gF rfl rfl (decide_eq_false hb460) rfl fin1)) ?_
            refine DF.det rfl (fun a w K hS hA hF => TG.pa hS hA (gF rfl rfl (decide_eq_false hb460) rfl fin1)) ?_
            refine DF.det rfl (fun a w K hS hA hF => TG.pa hS hA (gF rfl rfl (decide_eq_false hb460) rfl fin1)) ?_
            refine DF.det rfl (fun a w K hS hA hF => TG.pa hS hA (gF rfl rfl (decide_eq_false hb460) rfl fin1)) ?_
            refine DF.nil fun K490 hF => ?_
            refine gF rfl rfl (decide_eq_false hb460) rfl ?_
            refine pF rfl rfl (decide_eq_false hb460) rfl ?_
            refine on ?_
            obtain rfl := Option.some.inj hr489
            intro a w hS hA
            exact ⟨hS.selH [1, 2, 3, 4, 5] rfl, hA.cut ⟨rfl, rfl, rfl, rfl, rfl, rfl, trivial⟩⟩
          ·have hr491 := if_n hb451 hx449
           refine drG 19 T4.mixed (by kernel_rfl) rfl ?_
           refine DF.det rfl (fun a w K hS hA hF => TG.pa hS hA (mv rfl rfl fin1)) ?_
           refine DF.det rfl (fun a w K hS hA hF => TG.pa hS hA (mv rfl rfl fin1)) ?_
           refine DF.det rfl (fun a w K hS hA hF => TG.pa hS hA (neI rfl rfl rfl fin1)) ?_
           refine DF.det rfl (fun a w K hS hA hF => TG.pa hS hA (mv rfl rfl fin1)) ?_
           refine DF.det rfl (fun a w K hS hA hF => TG.pa hS hA (gF rfl rfl (decide_eq_false hb451) rfl fin1)) ?_
           refine DF.det rfl (fun a w K hS hA hF => TG.pa hS hA (gF rfl rfl (decide_eq_false hb451) rfl fin1)) ?_
           refine DF.det rfl (fun a w K hS hA hF => TG.pa hS hA (gF rfl rfl (decide_eq_false hb451) rfl fin1)) ?_
           refine DF.det rfl (fun a w K hS hA hF => TG.pa hS hA (gF rfl rfl (decide_eq_false hb451) rfl fin1)) ?_
           refine DF.det rfl (fun a w K hS hA hF => TG.pa hS hA (gF rfl rfl (decide_eq_false hb451) rfl fin1)) ?_
           refine DF.det rfl (fun a w K hS hA hF => TG.pa hS hA (pF rfl rfl (decide_eq_false hb451) rfl fin1)) ?_
           refine DF.det rfl (fun a w K hS hA hF => TG.pa hS hA (mv rfl rfl fin1)) ?_
           refine DF.det rfl (fun a w K hS hA hF => TG.pa hS hA (gF rfl rfl rfl rfl fin1)) ?_
           refine DF.det rfl (fun a w K hS hA hF => TG.pa hS hA (gF rfl rfl rfl rfl fin1)) ?_
           refine DF.det rfl (fun a w K hS hA hF => TG.pa hS hA (gF rfl rfl rfl rfl fin1)) ?_
           refine DF.det rfl (fun a w K hS hA hF => TG.pa hS hA (gF rfl rfl rfl rfl fin1)) ?_
           refine DF.det rfl (fun a w K hS hA hF => TG.pa hS hA (gF rfl rfl rfl rfl fin1)) ?_
           refine DF.det rfl (fun a w K hS hA hF => TG.pa hS hA (gF rfl rfl rfl rfl fin1)) ?_
           refine DF.det rfl (fun a w K hS hA hF => TG.pa hS hA (gF rfl rfl rfl rfl fin1)) ?_
           refine DF.det rfl (fun a w K hS hA hF => TG.pa hS hA (gF rfl rfl rfl rfl fin1)) ?_
           refine DF.nil fun K492 hF => ?_
           refine gF rfl rfl rfl rfl ?_
           refine pF rfl rfl rfl rfl ?_
           refine on ?_
           obtain rfl := Option.some.inj hr491
           intro a w hS hA
           exact ⟨hS.selH [1, 2, 3, 4, 5] rfl, hA.cut ⟨rfl, rfl, rfl, rfl, rfl, rfl, trivial⟩⟩
         ·rintro a w ⟨hS, hA⟩
          refine TG.ap ?_ hS hA
          refine cb rfl (fun hc511 => ?_) (fun hc511 => ?_)
          ·have hr512 := if_p hc511 hr450
           refine sq ?_
           obtain ⟨t527, hx528, hr529⟩ := bd_some hr512
           refine jn (fun a w => St [] W H [K162, K99, K17, K14, H] [] w ∧ Has [] 130 a [(10, .bool t527)]) ?_ ?_
           ·refine rg ?_
            refine mv rfl rfl ?_
            obtain ⟨x530, hx531, hr532⟩ := bd_some hx528
            obtain ⟨p533, rfl⟩ := hu161.adr hx531
            obtain ⟨cs534, hcs535, hq536, hr537⟩ := hu161.at hx531
            obtain rfl := hr537
            refine iaP Tryz.underlying59 Tryz.sizeOf31 rfl rfl rfl rfl (lt_of hx531) ?_
            refine ld Tryz.isAgg31 rfl rfl (sS 0 rfl hq536) rfl ?_
            refine eqI rfl rfl rfl ?_
            refine mv rfl rfl ?_
            by_cases hb538 : x530 = 0
            ·have hr539 := if_p hb538 hr532
             refine gN rfl rfl (decide_eq_true hb538) ?_
             obtain ⟨r540, hx541, hr542⟩ := bd_some hr539
             refine clS Tryz.call17 rfl rfl rfl rfl (fun w H hH le => w17 hH (hg.mono (le.at 4 rfl))  hx541) ?_
             refine pT rfl rfl (decide_eq_true hb538) rfl ?_
             refine av rfl rfl ?_
             refine on ?_
             obtain rfl := Option.some.inj hr542
             intro a w hS hA
             exact ⟨hS, hA.cut ⟨rfl, trivial⟩⟩
            ·have hr543 := if_n hb538 hr532
             refine gF rfl rfl (decide_eq_false hb538) rfl ?_
             refine pF rfl rfl (decide_eq_false hb538) rfl ?_
             refine av rfl rfl ?_
             refine on ?_
             obtain rfl := Option.some.inj hr543
             intro a w hS hA
             exact ⟨hS, hA.cut ⟨rfl, trivial⟩⟩
           ·rintro a w ⟨hS, hA⟩
            refine TG.ap ?_ hS hA
            refine rt_ ?_
            obtain rfl := Option.some.inj hr529
            obtain rfl := Fin.out hz338
            obtain rfl := Option.some.inj hr334
            intro a w hS hA
            refine ret1 hA rfl rfl ?_
            exact ⟨rfl, hS.ext⟩
          ·have hr544 := if_f hc511 hr450
           refine sk ?_
           refine rg ?_
           refine mv rfl rfl ?_
           refine adI rfl rfl rfl (by omega) ?_
           refine av rfl rfl ?_
           refine on ?_
           obtain rfl := Option.some.inj hr544
           intro a w hS hA
           exact ⟨_, hz338, hS, hA.cut ⟨rfl, rfl, rfl, rfl, rfl, trivial⟩⟩
        ·have hr545 := if_n hc343 hr337
         refine xt rfl ?_
         obtain rfl := Option.some.inj hr545
         obtain rfl := Fin.out hz338
         intro a w hS hA
         exact ⟨_, rfl, hS, hA.cut trivial⟩
      ·rintro a w ⟨t335, rfl, hS, hA⟩
       refine TG.ap ?_ hS hA
       refine sq ?_
       refine rg ?_
       refine av rfl rfl ?_
       refine on ?_
       refine rt_ ?_
       obtain rfl := Option.some.inj hr334
       intro a w hS hA
       refine ret1 hA rfl rfl ?_
       exact ⟨rfl, hS.ext⟩

end T4
