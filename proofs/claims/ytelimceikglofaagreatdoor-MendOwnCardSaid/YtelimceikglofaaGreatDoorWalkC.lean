/-
 Walks of functions of layer 4: each call comes to what the model says. Printed by a program of ours.
-/
import Derived.Test.YtelimceikglofaaGreatDoorWalkB
set_option linter.all false
set_option maxHeartbeats 4000000
namespace T4
open Go Go.Proofs Pk
theorem w22 {W : World} {H : Hp} (hH : H.le (hp W)) {cs_l_0 : List Value} (l_0 : Lexicon) (h_l_0 : (RLexicon) H cs_l_0 l_0) {ad_swaps : Option Addr} {cap_swaps : Nat} {swaps : List Swap} (h_swaps : Sl (Flat encSwap) 3 H ad_swaps cap_swaps swaps) {r : Int} (hr : m22 l_0 swaps = some r) : Calls Tryz.prog 22 [.agg cs_l_0.toArray, .slice ad_swaps swaps.length cap_swaps].toArray W (RetS W (.int .i64 r)) := by
 have hh_l_0 := h_l_0
 obtain ⟨ad1, cap2, ad4, cap5, ad7, cap8, rfl, hl3, hl6, hl9⟩ := h_l_0
 have := hl3.len
 have := hl6.len
 have := hl9.len
 have := h_swaps.len
 unfold m22 at hr
 refine enterG Tryz.func22 rfl Tryz.ntmps22 rfl hH ?_
 refine sq ?_
 refine rg ?_
 refine bI (cs := [.slice ad1 l_0.numbers.length cap2, .slice ad4 l_0.names.length cap5, .slice ad7 l_0.nots.length cap8]) rfl rfl rfl fun q10 K11 hK12 => ?_
 refine av rfl rfl ?_
 refine on ?_
 refine sq ?_
 refine sq ?_
 refine rg ?_
 refine ldA Tryz.isAgg26 Tryz.sizeOf26 rfl rfl (sS 0 rfl hK12) rfl ?_
 obtain ⟨r13, hx14, hr15⟩ := bd_some hr
 refine clS Tryz.call34 rfl rfl rfl rfl (fun w H hH le => w34 hH l_0 (RLexicon.mono _ _ _ _ (le.at 1 rfl) hh_l_0) hx14) ?_
 refine av rfl rfl ?_
 refine on ?_
 refine sq ?_
 refine rg ?_
 refine mv rfl rfl ?_
 refine neI rfl rfl rfl ?_
 refine on ?_
 refine ci rfl (fun hc19 => ?_) (fun hc19 => ?_)
 ·have hr20 := if_p hc19 hr15
  refine sq ?_
  refine rg ?_
  refine mv rfl rfl ?_
  refine av rfl rfl ?_
  refine on ?_
  refine rt_ ?_
  obtain rfl := Option.some.inj hr20
  intro a w hS hA
  refine ret1 hA rfl rfl ?_
  exact ⟨rfl, hS.ext⟩
 ·have hr21 := if_n hc19 hr15
  refine sk ?_
  refine sq ?_
  refine rg ?_
  refine mv rfl rfl ?_
  obtain ⟨r22, hx23, hr24⟩ := bd_some hr21
  refine clS Tryz.call27 rfl rfl rfl rfl (fun w H hH le => w27 hH (h_swaps.mono (Flat.mono _) (le.at 1 rfl)) hx23) ?_
  refine av rfl rfl ?_
  refine on ?_
  refine rt_ ?_
  obtain rfl := Option.some.inj hr24
  intro a w hS hA
  refine ret1 hA rfl rfl ?_
  exact ⟨rfl, hS.ext⟩

theorem w35 {W : World} {H : Hp} (hH : H.le (hp W)) {cs_r_0 : List Value} (r_0 : Report) (h_r_0 : (RReport) H cs_r_0 r_0) {ad_requests : Option Addr} {cap_requests : Nat} {requests : List Request} (h_requests : Sl (RRequest) 5 H ad_requests cap_requests requests) {r : Bool} (hr : m35 r_0 requests = some r) : Calls Tryz.prog 35 [.agg cs_r_0.toArray, .slice ad_requests requests.length cap_requests].toArray W (RetS W (.bool r)) := by
 have hh_r_0 := h_r_0
 obtain ⟨ad1, cap2, rfl, hl3⟩ := h_r_0
 have := hl3.len
 have := h_requests.len
 unfold m35 at hr
 refine enterG Tryz.func35 rfl Tryz.ntmps35 rfl hH ?_
 refine sq ?_
 refine rg ?_
 refine bI (cs := [.slice ad1 r_0.words.length cap2, .int .i64 r_0.out, .int .i64 r_0.within]) rfl rfl rfl fun q4 K5 hK6 => ?_
 refine av rfl rfl ?_
 refine on ?_
 refine sq ?_
 refine sq ?_
 refine rg ?_
 refine av rfl rfl ?_
 refine on ?_
 obtain ⟨e28, hl29, hr30⟩ := bd_some hr
 refine jn (fun a w => ∃ t31, e28 = .inl t31 ∧ St [] W H [K5, H] [] w ∧ Has [] 52 a [(1, .slice ad_requests requests.length cap_requests), (2, .pointer (some q4))]) ?_ ?_
 ·refine bk ?_
  refine lp hl29 (fun s32 a w => St [] W H [K5, H] [] w ∧ Has [] 52 a [(1, .slice ad_requests requests.length cap_requests), (2, .pointer (some q4)), (5, .int .i64 (s32 : Int))]) ?_ ?_
  ·intro a w hS hA
   exact ⟨hS, hA.cut ⟨rfl, rfl, rfl, trivial⟩⟩
  ·rintro j s32 y35 hr33 hz34 a w ⟨hS, hA⟩
   refine TG.ap ?_ hS hA
   unfold m35_1 at hr33
   refine sq ?_
   refine sq ?_
   obtain ⟨t39, hx40, hr41⟩ := bd_some hr33
   refine jn (fun a w => St [] W H [K5, H] [] w ∧ Has [] 52 a [(1, .slice ad_requests requests.length cap_requests), (2, .pointer (some q4)), (5, .int .i64 (s32 : Int)), (15, .bool t39)]) ?_ ?_
   ·refine rg ?_
    refine mv rfl rfl ?_
    refine fb 0 Tryz.underlying68 rfl rfl rfl rfl Tryz.sizeOf66 ?_
    refine ld Tryz.isAgg66 rfl rfl ((sS 0 rfl hK6).take 1) rfl ?_
    refine lnL Tryz.underlying66 rfl rfl ?_
    refine ltI rfl rfl rfl ?_
    refine mv rfl rfl ?_
    by_cases hb42 : (s32 : Int) < (r_0.words.length : Int)
    ·have hr43 := if_p hb42 hx40
     refine gN rfl rfl (decide_eq_true hb42) ?_
     refine mv rfl rfl ?_
     refine gN rfl rfl (decide_eq_true hb42) ?_
     refine ltI rfl rfl rfl ?_
     refine pT rfl rfl (decide_eq_true hb42) rfl ?_
     refine on ?_
     obtain rfl := Option.some.inj hr43
     intro a w hS hA
     exact ⟨hS, hA.cut ⟨rfl, rfl, rfl, rfl, trivial⟩⟩
    ·have hr44 := if_n hb42 hx40
     refine gF rfl rfl (decide_eq_false hb42) rfl ?_
     refine gF rfl rfl (decide_eq_false hb42) rfl ?_
     refine pF rfl rfl (decide_eq_false hb42) rfl ?_
     refine on ?_
     obtain rfl := Option.some.inj hr44
     intro a w hS hA
     exact ⟨hS, hA.cut ⟨rfl, rfl, rfl, rfl, trivial⟩⟩
   ·rintro a w ⟨hS, hA⟩
    refine TG.ap ?_ hS hA
    refine cb rfl (fun hc48 => ?_) (fun hc48 => ?_)
    ·have hr49 := if_p hc48 hr41
     refine sk ?_
     refine sq ?_
     refine bk ?_
     refine sq ?_
     refine rg ?_
     refine fb 0 Tryz.underlying68 rfl rfl rfl rfl Tryz.sizeOf66 ?_
     refine ld Tryz.isAgg66 rfl rfl ((sS 0 rfl hK6).take 1) rfl ?_
     refine mv rfl rfl ?_
     obtain ⟨x61, hx62, hr63⟩ := bd_some hr49
     obtain ⟨p64, rfl⟩ := hl3.adr hx62
     obtain ⟨cs65, hcs66, hq67, hr68⟩ := hl3.at hx62
     obtain rfl := hr68
     refine iaP Tryz.underlying66 Tryz.sizeOf74 rfl rfl rfl rfl (lt_of hx62) ?_
     refine fb 0 Tryz.underlying74 rfl rfl rfl rfl Tryz.sizeOf9 ?_
     refine ld Tryz.isAgg9 rfl rfl ((sS 1 rfl hq67).take 1) rfl ?_
     refine lnS Tryz.underlying9 rfl rfl ?_
     refine gtI rfl rfl rfl ?_
     refine on ?_
     refine ci rfl (fun hc72 => ?_) (fun hc72 => ?_)
     ·have hr73 := if_p hc72 hr63
      refine sq ?_
      refine rg ?_
      refine av rfl rfl ?_
      refine on ?_
      refine rt_ ?_
      obtain rfl := Option.some.inj hr73
      obtain rfl := Fin.out hz34
      obtain rfl := Option.some.inj hr30
      intro a w hS hA
      refine ret1 hA rfl rfl ?_
      exact ⟨rfl, hS.ext⟩
     ·have hr74 := if_n hc72 hr63
      refine sk ?_
      refine rg ?_
      refine mv rfl rfl ?_
      obtain ⟨hk75, hr76⟩ := chk_some hr74
      refine adI rfl rfl rfl hk75 ?_
      refine av rfl rfl ?_
      refine on ?_
      obtain rfl := Option.some.inj hr76
      intro a w hS hA
      exact ⟨_, hz34, hS, hA.cut ⟨rfl, rfl, rfl, trivial⟩⟩
    ·have hr77 := if_f hc48 hr41
     refine xt rfl ?_
     obtain rfl := Option.some.inj hr77
     obtain rfl := Fin.out hz34
     intro a w hS hA
     exact ⟨_, rfl, hS, hA.cut ⟨rfl, rfl, trivial⟩⟩
 ·rintro a w ⟨t31, rfl, hS, hA⟩
  refine TG.ap ?_ hS hA
  refine sq ?_
  refine sq ?_
  refine rg ?_
  refine av rfl rfl ?_
  refine on ?_
  obtain ⟨e106, hl107, hr108⟩ := bd_some hr30
  refine jn (fun a w => ∃ t109, e106 = .inl t109 ∧ St [] W H [K5, H] [] w ∧ Has [] 52 a [(1, .slice ad_requests requests.length cap_requests), (2, .pointer (some q4))]) ?_ ?_
  ·refine bk ?_
   refine lp hl107 (fun s110 a w => St [] W H [K5, H] [] w ∧ Has [] 52 a [(1, .slice ad_requests requests.length cap_requests), (2, .pointer (some q4)), (6, .int .i64 (s110 : Int))]) ?_ ?_
   ·intro a w hS hA
    exact ⟨hS, hA.cut ⟨rfl, rfl, rfl, trivial⟩⟩
   ·rintro j s110 y113 hr111 hz112 a w ⟨hS, hA⟩
    refine TG.ap ?_ hS hA
    unfold m35_2 at hr111
    refine sq ?_
    refine sq ?_
    obtain ⟨t117, hx118, hr119⟩ := bd_some hr111
    refine jn (fun a w => St [] W H [K5, H] [] w ∧ Has [] 52 a [(1, .slice ad_requests requests.length cap_requests), (2, .pointer (some q4)), (6, .int .i64 (s110 : Int)), (33, .bool t117)]) ?_ ?_
    ·refine rg ?_
     refine mv rfl rfl ?_
     refine mv rfl rfl ?_
     refine lnL Tryz.underlying69 rfl rfl ?_
     refine ltI rfl rfl rfl ?_
     refine mv rfl rfl ?_
     by_cases hb120 : (s110 : Int) < (requests.length : Int)
     ·have hr121 := if_p hb120 hx118
      refine gN rfl rfl (decide_eq_true hb120) ?_
      refine mv rfl rfl ?_
      refine gN rfl rfl (decide_eq_true hb120) ?_
      refine ltI rfl rfl rfl ?_
      refine pT rfl rfl (decide_eq_true hb120) rfl ?_
      refine on ?_
      obtain rfl := Option.some.inj hr121
      intro a w hS hA
      exact ⟨hS, hA.cut ⟨rfl, rfl, rfl, rfl, trivial⟩⟩
     ·have hr122 := if_n hb120 hx118
      refine gF rfl rfl (decide_eq_false hb120) rfl ?_
      refine gF rfl rfl (decide_eq_false hb120) rfl ?_
      refine pF rfl rfl (decide_eq_false hb120) rfl ?_
      refine on ?_
      obtain rfl := Option.some.inj hr122
      intro a w hS hA
      exact ⟨hS, hA.cut ⟨rfl, rfl, rfl, rfl, trivial⟩⟩
    ·rintro a w ⟨hS, hA⟩
     refine TG.ap ?_ hS hA
     refine cb rfl (fun hc126 => ?_) (fun hc126 => ?_)
     ·have hr127 := if_p hc126 hr119
      refine sk ?_
      refine sq ?_
      refine bk ?_
      refine sq ?_
      refine rg ?_
      refine mv rfl rfl ?_
      refine mv rfl rfl ?_
      obtain ⟨x146, hx147, hr148⟩ := bd_some hr127
      obtain ⟨p149, rfl⟩ := h_requests.adr hx147
      obtain ⟨cs150, hcs151, hq152, hr153⟩ := h_requests.at hx147
      have hr154 := hr153
      obtain ⟨ad155, cap156, rfl, hl157⟩ := hr153
      have := hl157.len
      refine iaP Tryz.underlying69 Tryz.sizeOf73 rfl rfl rfl rfl (lt_of hx147) ?_
      refine fb 4 Tryz.underlying73 rfl rfl rfl rfl Tryz.sizeOf24 ?_
      refine ld Tryz.isAgg24 rfl rfl ((sS 1 rfl hq152).drop 4) rfl ?_
      obtain ⟨r158, hx159, hr160⟩ := bd_some hr148
      refine clS Tryz.call16 rfl rfl rfl rfl (fun w H hH le => w16 hH (hl157.mono (Flat.mono _) (le.at 1 rfl)) 12 hx159) ?_
      refine nt rfl rfl ?_
      refine on ?_
      refine cb rfl (fun hc164 => ?_) (fun hc164 => ?_)
      ·replace hc164 := nbt hc164
       have hr165 := if_f hc164 hr160
       refine sq ?_
       refine rg ?_
       refine av rfl rfl ?_
       refine on ?_
       refine rt_ ?_
       obtain rfl := Option.some.inj hr165
       obtain rfl := Fin.out hz112
       obtain rfl := Option.some.inj hr108
       intro a w hS hA
       refine ret1 hA rfl rfl ?_
       exact ⟨rfl, hS.ext⟩
      ·replace hc164 := nbf hc164
       have hr166 := if_p hc164 hr160
       refine sk ?_
       refine rg ?_
       refine mv rfl rfl ?_
       obtain ⟨hk167, hr168⟩ := chk_some hr166
       refine adI rfl rfl rfl hk167 ?_
       refine av rfl rfl ?_
       refine on ?_
       obtain rfl := Option.some.inj hr168
       intro a w hS hA
       exact ⟨_, hz112, hS, hA.cut ⟨rfl, rfl, rfl, trivial⟩⟩
     ·have hr169 := if_f hc126 hr119
      refine xt rfl ?_
      obtain rfl := Option.some.inj hr169
      obtain rfl := Fin.out hz112
      intro a w hS hA
      exact ⟨_, rfl, hS, hA.cut ⟨rfl, rfl, trivial⟩⟩
  ·rintro a w ⟨t109, rfl, hS, hA⟩
   refine TG.ap ?_ hS hA
   refine sq ?_
   obtain ⟨t173, hx174, hr175⟩ := bd_some hr108
   refine jn (fun a w => St [] W H [K5, H] [] w ∧ Has [] 52 a [(4, .bool t173)]) ?_ ?_
   ·refine rg ?_
    refine fb 0 Tryz.underlying68 rfl rfl rfl rfl Tryz.sizeOf66 ?_
    refine ld Tryz.isAgg66 rfl rfl ((sS 0 rfl hK6).take 1) rfl ?_
    refine lnL Tryz.underlying66 rfl rfl ?_
    refine leI rfl rfl rfl ?_
    refine mv rfl rfl ?_
    by_cases hb176 : (r_0.words.length : Int) ≤ 85
    ·have hr177 := if_p hb176 hx174
     refine gN rfl rfl (decide_eq_true hb176) ?_
     refine mv rfl rfl ?_
     refine gN rfl rfl (decide_eq_true hb176) ?_
     refine lnL Tryz.underlying69 rfl rfl ?_
     refine gN rfl rfl (decide_eq_true hb176) ?_
     refine leI rfl rfl rfl ?_
     refine pT rfl rfl (decide_eq_true hb176) rfl ?_
     refine av rfl rfl ?_
     refine on ?_
     obtain rfl := Option.some.inj hr177
     intro a w hS hA
     exact ⟨hS, hA.cut ⟨rfl, trivial⟩⟩
    ·have hr178 := if_n hb176 hx174
     refine gF rfl rfl (decide_eq_false hb176) rfl ?_
     refine gF rfl rfl (decide_eq_false hb176) rfl ?_
     refine gF rfl rfl (decide_eq_false hb176) rfl ?_
     refine pF rfl rfl (decide_eq_false hb176) rfl ?_
     refine av rfl rfl ?_
     refine on ?_
     obtain rfl := Option.some.inj hr178
     intro a w hS hA
     exact ⟨hS, hA.cut ⟨rfl, trivial⟩⟩
   ·rintro a w ⟨hS, hA⟩
    refine TG.ap ?_ hS hA
    refine rt_ ?_
    obtain rfl := Option.some.inj hr175
    intro a w hS hA
    refine ret1 hA rfl rfl ?_
    exact ⟨rfl, hS.ext⟩

theorem w37 {W : World} {H : Hp} (hH : H.le (hp W)) {cs_r_0 : List Value} (r_0 : Report) (h_r_0 : (RReport) H cs_r_0 r_0) {r : Bool} (hr : m37 r_0 = some r) : Calls Tryz.prog 37 [.agg cs_r_0.toArray].toArray W (RetS W (.bool r)) := by
 have hh_r_0 := h_r_0
 obtain ⟨ad1, cap2, rfl, hl3⟩ := h_r_0
 have := hl3.len
 unfold m37 at hr
 refine enterG Tryz.func37 rfl Tryz.ntmps37 rfl hH ?_
 refine sq ?_
 refine rg ?_
 refine bI (cs := [.slice ad1 r_0.words.length cap2, .int .i64 r_0.out, .int .i64 r_0.within]) rfl rfl rfl fun q4 K5 hK6 => ?_
 refine av rfl rfl ?_
 refine on ?_
 refine sq ?_
 refine sq ?_
 refine rg ?_
 refine av rfl rfl ?_
 refine on ?_
 obtain ⟨e32, hl33, hr34⟩ := bd_some hr
 refine jn (fun a w => ∃ t35, e32 = .inl t35 ∧ St [] W H [K5, H] [] w ∧ Has [] 43 a [(1, .pointer (some q4))]) ?_ ?_
 ·refine bk ?_
  refine lp hl33 (fun s36 a w => St [] W H [K5, H] [] w ∧ Has [] 43 a [(1, .pointer (some q4)), (3, .int .i64 (s36 : Int))]) ?_ ?_
  ·intro a w hS hA
   exact ⟨hS, hA.cut ⟨rfl, rfl, trivial⟩⟩
  ·rintro j s36 y39 hr37 hz38 a w ⟨hS, hA⟩
   refine TG.ap ?_ hS hA
   unfold m37_1 at hr37
   refine sq ?_
   refine sq ?_
   refine rg ?_
   refine mv rfl rfl ?_
   refine fb 0 Tryz.underlying68 rfl rfl rfl rfl Tryz.sizeOf66 ?_
   refine ld Tryz.isAgg66 rfl rfl ((sS 0 rfl hK6).take 1) rfl ?_
   refine lnL Tryz.underlying66 rfl rfl ?_
   refine ltI rfl rfl rfl ?_
   refine on ?_
   refine ci rfl (fun hc43 => ?_) (fun hc43 => ?_)
   ·have hr44 := if_p hc43 hr37
    refine sk ?_
    refine sq ?_
    refine bk ?_
    refine sq ?_
    obtain ⟨t83, hx84, hr85⟩ := bd_some hr44
    refine jn (fun a w => St [] W H [K5, H] [] w ∧ Has [] 43 a [(1, .pointer (some q4)), (3, .int .i64 (s36 : Int)), (28, .bool t83)]) ?_ ?_
    ·refine rg ?_
     refine fb 0 Tryz.underlying68 rfl rfl rfl rfl Tryz.sizeOf66 ?_
     refine ld Tryz.isAgg66 rfl rfl ((sS 0 rfl hK6).take 1) rfl ?_
     refine mv rfl rfl ?_
     obtain ⟨x86, hx87, hr88⟩ := bd_some hx84
     obtain ⟨p89, rfl⟩ := hl3.adr hx87
     obtain ⟨cs90, hcs91, hq92, hr93⟩ := hl3.at hx87
     obtain rfl := hr93
     refine iaP Tryz.underlying66 Tryz.sizeOf74 rfl rfl rfl rfl (lt_of hx87) ?_
     refine fb 0 Tryz.underlying74 rfl rfl rfl rfl Tryz.sizeOf9 ?_
     refine ld Tryz.isAgg9 rfl rfl ((sS 1 rfl hq92).take 1) rfl ?_
     obtain ⟨r94, hx95, hr96⟩ := bd_some hr88
     refine clS Tryz.call60 rfl rfl rfl rfl (fun w H hH le => w60 x86.text hx95) ?_
     refine nt rfl rfl ?_
     refine mv rfl rfl ?_
     rcases Bool.eq_false_or_eq_true (r94) with hb97 | hb97
     ·have hr98 := if_p hb97 hr96
      refine gN rfl rfl (congrArg not (hb97)) ?_
      refine fb 0 Tryz.underlying68 rfl rfl rfl rfl Tryz.sizeOf66 ?_
      refine gN rfl rfl (congrArg not (hb97)) ?_
      refine ld Tryz.isAgg66 rfl rfl ((sS 0 rfl hK6).take 1) rfl ?_
      refine gN rfl rfl (congrArg not (hb97)) ?_
      refine mv rfl rfl ?_
      refine gN rfl rfl (congrArg not (hb97)) ?_
      refine iaP Tryz.underlying66 Tryz.sizeOf74 rfl rfl rfl rfl (lt_of hx87) ?_
      refine gN rfl rfl (congrArg not (hb97)) ?_
      refine fb 1 Tryz.underlying74 rfl rfl rfl rfl Tryz.sizeOf3 ?_
      refine gN rfl rfl (congrArg not (hb97)) ?_
      refine ld Tryz.isAgg3 rfl rfl ((sS 1 rfl hq92).drop 1) rfl ?_
      refine gN rfl rfl (congrArg not (hb97)) ?_
      obtain ⟨r99, hx100, hr101⟩ := bd_some hr98
      refine clS Tryz.call28 rfl rfl rfl rfl (fun w H hH le => w28 x86.speaker 0 999 hx100) ?_
      refine gN rfl rfl (congrArg not (hb97)) ?_
      refine nt rfl rfl ?_
      refine pF rfl rfl (congrArg not (hb97)) rfl ?_
      refine on ?_
      obtain rfl := Option.some.inj hr101
      intro a w hS hA
      exact ⟨hS, hA.cut ⟨rfl, rfl, rfl, trivial⟩⟩
     ·have hr102 := if_f hb97 hr96
      refine gF rfl rfl (congrArg not (hb97)) rfl ?_
      refine gF rfl rfl (congrArg not (hb97)) rfl ?_
      refine gF rfl rfl (congrArg not (hb97)) rfl ?_
      refine gF rfl rfl (congrArg not (hb97)) rfl ?_
      refine gF rfl rfl (congrArg not (hb97)) rfl ?_
      refine gF rfl rfl (congrArg not (hb97)) rfl ?_
      refine gF rfl rfl (congrArg not (hb97)) rfl ?_
      refine gF rfl rfl (congrArg not (hb97)) rfl ?_
      refine pT rfl rfl (congrArg not (hb97)) rfl ?_
      refine on ?_
      obtain rfl := Option.some.inj hr102
      intro a w hS hA
      exact ⟨hS, hA.cut ⟨rfl, rfl, rfl, trivial⟩⟩
    ·rintro a w ⟨hS, hA⟩
     refine TG.ap ?_ hS hA
     refine cb rfl (fun hc106 => ?_) (fun hc106 => ?_)
     ·have hr107 := if_p hc106 hr85
      refine sq ?_
      refine rg ?_
      refine av rfl rfl ?_
      refine on ?_
      refine rt_ ?_
      obtain rfl := Option.some.inj hr107
      obtain rfl := Fin.out hz38
      obtain rfl := Option.some.inj hr34
      intro a w hS hA
      refine ret1 hA rfl rfl ?_
      exact ⟨rfl, hS.ext⟩
     ·have hr108 := if_f hc106 hr85
      refine sk ?_
      refine rg ?_
      refine mv rfl rfl ?_
      refine adI rfl rfl rfl (by omega) ?_
      refine av rfl rfl ?_
      refine on ?_
      obtain rfl := Option.some.inj hr108
      intro a w hS hA
      exact ⟨_, hz38, hS, hA.cut ⟨rfl, rfl, trivial⟩⟩
   ·have hr109 := if_n hc43 hr37
    refine xt rfl ?_
    obtain rfl := Option.some.inj hr109
    obtain rfl := Fin.out hz38
    intro a w hS hA
    exact ⟨_, rfl, hS, hA.cut ⟨rfl, trivial⟩⟩
 ·rintro a w ⟨t35, rfl, hS, hA⟩
  refine TG.ap ?_ hS hA
  refine sq ?_
  obtain ⟨t122, hx123, hr124⟩ := bd_some hr34
  refine jn (fun a w => St [] W H [K5, H] [] w ∧ Has [] 43 a [(2, .bool t122)]) ?_ ?_
  ·refine rg ?_
   refine fb 0 Tryz.underlying68 rfl rfl rfl rfl Tryz.sizeOf66 ?_
   refine ld Tryz.isAgg66 rfl rfl ((sS 0 rfl hK6).take 1) rfl ?_
   refine lnL Tryz.underlying66 rfl rfl ?_
   refine leI rfl rfl rfl ?_
   refine mv rfl rfl ?_
   by_cases hb125 : (r_0.words.length : Int) ≤ 80
   ·have hr126 := if_p hb125 hx123
    refine gN rfl rfl (decide_eq_true hb125) ?_
    refine fb 1 Tryz.underlying68 rfl rfl rfl rfl Tryz.sizeOf3 ?_
    refine gN rfl rfl (decide_eq_true hb125) ?_
    refine ld Tryz.isAgg3 rfl rfl (((sS 0 rfl hK6).drop 1).take 1) rfl ?_
    refine gN rfl rfl (decide_eq_true hb125) ?_
    obtain ⟨r127, hx128, hr129⟩ := bd_some hr126
    refine clS Tryz.call28 rfl rfl rfl rfl (fun w H hH le => w28 r_0.out 0 100000 hx128) ?_
    refine pT rfl rfl (decide_eq_true hb125) rfl ?_
    refine mv rfl rfl ?_
    rcases Bool.eq_false_or_eq_true (r127) with hb130 | hb130
    ·have hr131 := if_p hb130 hr129
     refine gN rfl rfl (hb130) ?_
     refine fb 2 Tryz.underlying68 rfl rfl rfl rfl Tryz.sizeOf3 ?_
     refine gN rfl rfl (hb130) ?_
     refine ld Tryz.isAgg3 rfl rfl ((sS 0 rfl hK6).drop 2) rfl ?_
     refine gN rfl rfl (hb130) ?_
     obtain ⟨r132, hx133, hr134⟩ := bd_some hr131
     refine clS Tryz.call28 rfl rfl rfl rfl (fun w H hH le => w28 r_0.within 0 100000 hx133) ?_
     refine pT rfl rfl (hb130) rfl ?_
     refine av rfl rfl ?_
     refine on ?_
     obtain rfl := Option.some.inj hr134
     intro a w hS hA
     exact ⟨hS, hA.cut ⟨rfl, trivial⟩⟩
    ·have hr135 := if_f hb130 hr129
     refine gF rfl rfl (hb130) rfl ?_
     refine gF rfl rfl (hb130) rfl ?_
     refine gF rfl rfl (hb130) rfl ?_
     refine pF rfl rfl (hb130) rfl ?_
     refine av rfl rfl ?_
     refine on ?_
     obtain rfl := Option.some.inj hr135
     intro a w hS hA
     exact ⟨hS, hA.cut ⟨rfl, trivial⟩⟩
   ·have hr136 := if_n hb125 hx123
    refine gF rfl rfl (decide_eq_false hb125) rfl ?_
    refine gF rfl rfl (decide_eq_false hb125) rfl ?_
    refine gF rfl rfl (decide_eq_false hb125) rfl ?_
    refine pF rfl rfl (decide_eq_false hb125) rfl ?_
    refine mv rfl rfl ?_
    refine gF rfl rfl rfl rfl ?_
    refine gF rfl rfl rfl rfl ?_
    refine gF rfl rfl rfl rfl ?_
    refine pF rfl rfl rfl rfl ?_
    refine av rfl rfl ?_
    refine on ?_
    obtain rfl := Option.some.inj hr136
    intro a w hS hA
    exact ⟨hS, hA.cut ⟨rfl, trivial⟩⟩
  ·rintro a w ⟨hS, hA⟩
   refine TG.ap ?_ hS hA
   refine rt_ ?_
   obtain rfl := Option.some.inj hr124
   intro a w hS hA
   refine ret1 hA rfl rfl ?_
   exact ⟨rfl, hS.ext⟩

theorem w38 {W : World} {H : Hp} (hH : H.le (hp W)) {cs_l_0 : List Value} (l_0 : Lexicon) (h_l_0 : (RLexicon) H cs_l_0 l_0) {ad_swaps : Option Addr} {cap_swaps : Nat} {swaps : List Swap} (h_swaps : Sl (Flat encSwap) 3 H ad_swaps cap_swaps swaps) {cs_r_2 : List Value} (r_2 : Report) (h_r_2 : (RReport) H cs_r_2 r_2) {ad_requests : Option Addr} {cap_requests : Nat} {requests : List Request} (h_requests : Sl (RRequest) 5 H ad_requests cap_requests requests) {r : Int} (hr : m38 l_0 swaps r_2 requests = some r) : Calls Tryz.prog 38 [.agg cs_l_0.toArray, .slice ad_swaps swaps.length cap_swaps, .agg cs_r_2.toArray, .slice ad_requests requests.length cap_requests].toArray W (RetS W (.int .i64 r)) := by
 have hh_l_0 := h_l_0
 obtain ⟨ad1, cap2, ad4, cap5, ad7, cap8, rfl, hl3, hl6, hl9⟩ := h_l_0
 have := hl3.len
 have := hl6.len
 have := hl9.len
 have := h_swaps.len
 have hh_r_2 := h_r_2
 obtain ⟨ad10, cap11, rfl, hl12⟩ := h_r_2
 have := hl12.len
 have := h_requests.len
 unfold m38 at hr
 refine enterG Tryz.func38 rfl Tryz.ntmps38 rfl hH ?_
 refine sq ?_
 refine rg ?_
 refine bI (cs := [.slice ad1 l_0.numbers.length cap2, .slice ad4 l_0.names.length cap5, .slice ad7 l_0.nots.length cap8]) rfl rfl rfl fun q13 K14 hK15 => ?_
 refine bI (cs := [.slice ad10 r_2.words.length cap11, .int .i64 r_2.out, .int .i64 r_2.within]) rfl rfl rfl fun q16 K17 hK18 => ?_
 refine av rfl rfl ?_
 refine on ?_
 refine sq ?_
 refine sq ?_
 refine rg ?_
 refine ldA Tryz.isAgg26 Tryz.sizeOf26 rfl rfl (sS 1 rfl hK15) rfl ?_
 refine mv rfl rfl ?_
 obtain ⟨r19, hx20, hr21⟩ := bd_some hr
 refine clS Tryz.call22 rfl rfl rfl rfl (fun w H hH le => w22 hH l_0 (RLexicon.mono _ _ _ _ (le.at 2 rfl) hh_l_0) (h_swaps.mono (Flat.mono _) (le.at 2 rfl)) hx20) ?_
 refine av rfl rfl ?_
 refine on ?_
 refine sq ?_
 refine rg ?_
 refine mv rfl rfl ?_
 refine neI rfl rfl rfl ?_
 refine on ?_
 refine ci rfl (fun hc25 => ?_) (fun hc25 => ?_)
 ·have hr26 := if_p hc25 hr21
  refine sq ?_
  refine rg ?_
  refine mv rfl rfl ?_
  refine av rfl rfl ?_
  refine on ?_
  refine rt_ ?_
  obtain rfl := Option.some.inj hr26
  intro a w hS hA
  refine ret1 hA rfl rfl ?_
  exact ⟨rfl, hS.ext⟩
 ·have hr27 := if_n hc25 hr21
  refine sk ?_
  refine sq ?_
  refine sq ?_
  refine rg ?_
  refine ldA Tryz.isAgg68 Tryz.sizeOf68 rfl rfl (sS 0 rfl hK18) rfl ?_
  obtain ⟨r28, hx29, hr30⟩ := bd_some hr27
  refine clS Tryz.call37 rfl rfl rfl rfl (fun w H hH le => w37 hH r_2 (RReport.mono _ _ _ _ (le.at 2 rfl) hh_r_2) hx29) ?_
  refine nt rfl rfl ?_
  refine on ?_
  refine cb rfl (fun hc34 => ?_) (fun hc34 => ?_)
  ·replace hc34 := nbt hc34
   have hr35 := if_f hc34 hr30
   refine sq ?_
   refine rg ?_
   refine av rfl rfl ?_
   refine on ?_
   refine rt_ ?_
   obtain rfl := Option.some.inj hr35
   intro a w hS hA
   refine ret1 hA rfl rfl ?_
   exact ⟨rfl, hS.ext⟩
  ·replace hc34 := nbf hc34
   have hr36 := if_p hc34 hr30
   refine sk ?_
   refine sq ?_
   refine sq ?_
   refine rg ?_
   refine mv rfl rfl ?_
   refine lnL Tryz.underlying69 rfl rfl ?_
   refine gtI rfl rfl rfl ?_
   refine on ?_
   refine ci rfl (fun hc40 => ?_) (fun hc40 => ?_)
   ·have hr41 := if_p hc40 hr36
    refine sq ?_
    refine rg ?_
    refine av rfl rfl ?_
    refine on ?_
    refine rt_ ?_
    obtain rfl := Option.some.inj hr41
    intro a w hS hA
    refine ret1 hA rfl rfl ?_
    exact ⟨rfl, hS.ext⟩
   ·have hr42 := if_n hc40 hr36
    refine sk ?_
    refine sq ?_
    refine rg ?_
    refine av rfl rfl ?_
    refine on ?_
    refine rt_ ?_
    obtain rfl := Option.some.inj hr42
    intro a w hS hA
    refine ret1 hA rfl rfl ?_
    exact ⟨rfl, hS.ext⟩

theorem w30 {W : World} {H : Hp} (hH : H.le (hp W)) {cs_l_0 : List Value} (l_0 : Lexicon) (h_l_0 : (RLexicon) H cs_l_0 l_0) {ad_swaps : Option Addr} {cap_swaps : Nat} {swaps : List Swap} (h_swaps : Sl (Flat encSwap) 3 H ad_swaps cap_swaps swaps) {cs_r_2 : List Value} (r_2 : Report) (h_r_2 : (RReport) H cs_r_2 r_2) {ad_requests : Option Addr} {cap_requests : Nat} {requests : List Request} (h_requests : Sl (RRequest) 5 H ad_requests cap_requests requests) {r : Bool} (hr : m30 l_0 swaps r_2 requests = some r) : Calls Tryz.prog 30 [.agg cs_l_0.toArray, .slice ad_swaps swaps.length cap_swaps, .agg cs_r_2.toArray, .slice ad_requests requests.length cap_requests].toArray W (RetS W (.bool r)) := by
 have hh_l_0 := h_l_0
 obtain ⟨ad1, cap2, ad4, cap5, ad7, cap8, rfl, hl3, hl6, hl9⟩ := h_l_0
 have := hl3.len
 have := hl6.len
 have := hl9.len
 have := h_swaps.len
 have hh_r_2 := h_r_2
 obtain ⟨ad10, cap11, rfl, hl12⟩ := h_r_2
 have := hl12.len
 have := h_requests.len
 unfold m30 at hr
 refine enterG Tryz.func30 rfl Tryz.ntmps30 rfl hH ?_
 refine sq ?_
 refine rg ?_
 refine bI (cs := [.slice ad1 l_0.numbers.length cap2, .slice ad4 l_0.names.length cap5, .slice ad7 l_0.nots.length cap8]) rfl rfl rfl fun q13 K14 hK15 => ?_
 refine bI (cs := [.slice ad10 r_2.words.length cap11, .int .i64 r_2.out, .int .i64 r_2.within]) rfl rfl rfl fun q16 K17 hK18 => ?_
 refine av rfl rfl ?_
 refine on ?_
 refine sq ?_
 obtain ⟨t34, hx35, hr36⟩ := bd_some hr
 refine jn (fun a w => St [] W H [K17, K14, H] [] w ∧ Has [] 25 a [(8, .bool t34)]) ?_ ?_
 ·refine rg ?_
  refine ldA Tryz.isAgg26 Tryz.sizeOf26 rfl rfl (sS 1 rfl hK15) rfl ?_
  refine mv rfl rfl ?_
  obtain ⟨r37, hx38, hr39⟩ := bd_some hx35
  refine clS Tryz.call15 rfl rfl rfl rfl (fun w H hH le => w15 hH l_0 (RLexicon.mono _ _ _ _ (le.at 2 rfl) hh_l_0) (h_swaps.mono (Flat.mono _) (le.at 2 rfl)) hx38) ?_
  refine mv rfl rfl ?_
  rcases Bool.eq_false_or_eq_true (r37) with hb40 | hb40
  ·have hr41 := if_p hb40 hr39
   refine gN rfl rfl (hb40) ?_
   refine ldA Tryz.isAgg68 Tryz.sizeOf68 rfl rfl (sS 0 rfl hK18) rfl ?_
   refine gN rfl rfl (hb40) ?_
   refine mv rfl rfl ?_
   refine gN rfl rfl (hb40) ?_
   obtain ⟨r42, hx43, hr44⟩ := bd_some hr41
   refine clS Tryz.call35 rfl rfl rfl rfl (fun w H hH le => w35 hH r_2 (RReport.mono _ _ _ _ (le.at 2 rfl) hh_r_2) (h_requests.mono (RRequest.mono) (le.at 2 rfl)) hx43) ?_
   refine pT rfl rfl (hb40) rfl ?_
   refine mv rfl rfl ?_
   rcases Bool.eq_false_or_eq_true (r42) with hb45 | hb45
   ·have hr46 := if_p hb45 hr44
    refine gN rfl rfl (hb45) ?_
    refine ldA Tryz.isAgg26 Tryz.sizeOf26 rfl rfl (sS 1 rfl hK15) rfl ?_
    refine gN rfl rfl (hb45) ?_
    refine mv rfl rfl ?_
    refine gN rfl rfl (hb45) ?_
    refine ldA Tryz.isAgg68 Tryz.sizeOf68 rfl rfl (sS 0 rfl hK18) rfl ?_
    refine gN rfl rfl (hb45) ?_
    refine mv rfl rfl ?_
    refine gN rfl rfl (hb45) ?_
    obtain ⟨r47, hx48, hr49⟩ := bd_some hr46
    refine clS Tryz.call38 rfl rfl rfl rfl (fun w H hH le => w38 hH l_0 (RLexicon.mono _ _ _ _ (le.at 2 rfl) hh_l_0) (h_swaps.mono (Flat.mono _) (le.at 2 rfl)) r_2 (RReport.mono _ _ _ _ (le.at 2 rfl) hh_r_2) (h_requests.mono (RRequest.mono) (le.at 2 rfl)) hx48) ?_
    refine gN rfl rfl (hb45) ?_
    refine eqI rfl rfl rfl ?_
    refine pT rfl rfl (hb45) rfl ?_
    refine av rfl rfl ?_
    refine on ?_
    obtain rfl := Option.some.inj hr49
    intro a w hS hA
    exact ⟨hS, hA.cut ⟨rfl, trivial⟩⟩
   ·have hr50 := if_f hb45 hr44
    refine gF rfl rfl (hb45) rfl ?_
    refine gF rfl rfl (hb45) rfl ?_
    refine gF rfl rfl (hb45) rfl ?_
    refine gF rfl rfl (hb45) rfl ?_
    refine gF rfl rfl (hb45) rfl ?_
    refine gF rfl rfl (hb45) rfl ?_
    refine pF rfl rfl (hb45) rfl ?_
    refine av rfl rfl ?_
    refine on ?_
    obtain rfl := Option.some.inj hr50
    intro a w hS hA
    exact ⟨hS, hA.cut ⟨rfl, trivial⟩⟩
  ·have hr51 := if_f hb40 hr39
   refine gF rfl rfl (hb40) rfl ?_
   refine gF rfl rfl (hb40) rfl ?_
   refine gF rfl rfl (hb40) rfl ?_
   refine pF rfl rfl (hb40) rfl ?_
   refine mv rfl rfl ?_
   refine gF rfl rfl rfl rfl ?_
   refine gF rfl rfl rfl rfl ?_
   refine gF rfl rfl rfl rfl ?_
   refine gF rfl rfl rfl rfl ?_
   refine gF rfl rfl rfl rfl ?_
   refine gF rfl rfl rfl rfl ?_
   refine pF rfl rfl rfl rfl ?_
   refine av rfl rfl ?_
   refine on ?_
   obtain rfl := Option.some.inj hr51
   intro a w hS hA
   exact ⟨hS, hA.cut ⟨rfl, trivial⟩⟩
 ·rintro a w ⟨hS, hA⟩
  refine TG.ap ?_ hS hA
  refine rt_ ?_
  obtain rfl := Option.some.inj hr36
  intro a w hS hA
  refine ret1 hA rfl rfl ?_
  exact ⟨rfl, hS.ext⟩

theorem w31 {W : World} {H : Hp} (hH : H.le (hp W)) {cs_r_0 : List Value} (r_0 : Report) (h_r_0 : (RReport) H cs_r_0 r_0) {r : Report} (hr : m31 r_0 = some r) : Calls Tryz.prog 31 [.agg cs_r_0.toArray].toArray W (RetK H W (fun v K => ∃ (cs0 : List Value), v = .agg cs0.toArray ∧ (RReport) K cs0 r)) := by
 have hh_r_0 := h_r_0
 obtain ⟨ad1, cap2, rfl, hl3⟩ := h_r_0
 have := hl3.len
 unfold m31 at hr
 refine enterG Tryz.func31 rfl Tryz.ntmps31 rfl hH ?_
 refine sq ?_
 refine rg ?_
 refine bI (cs := [.slice ad1 r_0.words.length cap2, .int .i64 r_0.out, .int .i64 r_0.within]) rfl rfl rfl fun q4 K5 hK6 => ?_
 refine al 1 (cs := [.slice none 0 0, .int .i64 0, .int .i64 0]) Tryz.zeroValue56 rfl rfl fun b7 => ?_
 refine on ?_
 refine sq ?_
 refine rg ?_
 refine fb 1 Tryz.underlying68 rfl rfl rfl rfl Tryz.sizeOf3 ?_
 refine ld Tryz.isAgg3 rfl rfl (((sS 0 rfl hK6).drop 1).take 1) rfl ?_
 refine fb 2 Tryz.underlying68 rfl rfl rfl rfl Tryz.sizeOf3 ?_
 refine ld Tryz.isAgg3 rfl rfl ((sS 0 rfl hK6).drop 2) rfl ?_
 refine bu (cs := [.slice none 0 0, .int .i64 r_0.out, .int .i64 r_0.within]) T4.B56 rfl rfl rfl ?_
 refine al 2 (cs := [.slice none 0 0, .int .i64 0, .int .i64 0]) Tryz.zeroValue56 rfl rfl fun b8 => ?_
 refine sto 2 (cs := [.slice none 0 0, .int .i64 r_0.out, .int .i64 r_0.within]) Tryz.sizeOf56 rfl rfl rfl rfl rfl rfl rfl ?_
 refine on ?_
 refine sq ?_
 refine sq ?_
 refine rg ?_
 refine av rfl rfl ?_
 refine on ?_
 refine TG.nilRow 4 58 2 ?_
 refine TG.as 4 (z := Own.list none 0 58 2 encSaid ([] : List Said)) rfl rfl ?_
 obtain ⟨e90, hl91, hr92⟩ := bd_some hr
 refine jn (fun a w => ∃ (ad93 : Option Addr) (cap94 : Nat), St [] W H [K5, H] [(4, Own.list ad93 cap94 58 2 encSaid e90), (2, cel b8 56 [.slice ad93 e90.length cap94, .int .i64 r_0.out, .int .i64 r_0.within]), (1, cel b7 56 [.slice none 0 0, .int .i64 0, .int .i64 0])] w ∧ Has [] 36 a [(2, .pointer (some (⟨b7, 0, none⟩))), (3, .pointer (some (⟨b8, 0, none⟩)))]) ?_ ?_
 ·refine bk ?_
  refine lp hl91 (fun s95 a w => ∃ (ad96 : Option Addr) (cap97 : Nat), St [] W H [K5, H] [(4, Own.list ad96 cap97 58 2 encSaid s95.2), (2, cel b8 56 [.slice ad96 s95.2.length cap97, .int .i64 r_0.out, .int .i64 r_0.within]), (1, cel b7 56 [.slice none 0 0, .int .i64 0, .int .i64 0])] w ∧ Has [] 36 a [(1, .pointer (some q4)), (2, .pointer (some (⟨b7, 0, none⟩))), (3, .pointer (some (⟨b8, 0, none⟩))), (4, .int .i64 (s95.1 : Int))]) ?_ ?_
  ·intro a w hS hA
   exact ⟨none, 0, hS, hA.cut ⟨rfl, rfl, rfl, rfl, trivial⟩⟩
  ·rintro j s95 y100 hr98 hz99 a w ⟨ad96, cap97, hS, hA⟩
   refine TG.ap ?_ hS hA
   unfold m31_1 at hr98
   refine sq ?_
   refine sq ?_
   refine rg ?_
   refine mv rfl rfl ?_
   refine fb 0 Tryz.underlying68 rfl rfl rfl rfl Tryz.sizeOf66 ?_
   refine ld Tryz.isAgg66 rfl rfl ((sS 0 rfl hK6).take 1) rfl ?_
   refine lnL Tryz.underlying66 rfl rfl ?_
   refine ltI rfl rfl rfl ?_
   refine on ?_
   refine ci rfl (fun hc104 => ?_) (fun hc104 => ?_)
   ·have hr105 := if_p hc104 hr98
    refine sk ?_
    refine sq ?_
    refine bk ?_
    obtain ⟨x127, hx128, hr129⟩ := bd_some hr105
    obtain ⟨p130, rfl⟩ := hl3.adr hx128
    obtain ⟨cs131, hcs132, hq133, hr134⟩ := hl3.at hx128
    obtain rfl := hr134
    refine drG 16 T4.mixed (by kernel_rfl) rfl ?_
    refine DF.det rfl (fun a w K hS hA hF => TG.pa hS hA (fb 0 Tryz.underlying56 rfl rfl rfl rfl Tryz.sizeOf54 fin1)) ?_
    refine DF.det rfl (fun a w K hS hA hF => TG.pa hS hA (ld Tryz.isAgg54 rfl rfl ((sO 2 rfl).take 1) rfl fin1)) ?_
    refine DF.det rfl (fun a w K hS hA hF => TG.pa hS hA (fb 0 Tryz.underlying68 rfl rfl rfl rfl Tryz.sizeOf66 fin1)) ?_
    refine DF.det rfl (fun a w K hS hA hF => TG.pa hS hA (ld Tryz.isAgg66 rfl rfl ((sS 1 rfl hK6).take 1) rfl fin1)) ?_
    refine DF.det rfl (fun a w K hS hA hF => TG.pa hS hA (mv rfl rfl fin1)) ?_
    refine DF.det rfl (fun a w K hS hA hF => TG.pa hS hA (iaP Tryz.underlying66 Tryz.sizeOf74 rfl rfl rfl rfl (lt_of hx128) fin1)) ?_
    refine DF.det rfl (fun a w K hS hA hF => TG.pa hS hA (fb 0 Tryz.underlying74 rfl rfl rfl rfl Tryz.sizeOf9 fin1)) ?_
    refine DF.det rfl (fun a w K hS hA hF => TG.pa hS hA (ld Tryz.isAgg9 rfl rfl ((sS 2 rfl hq133).take 1) rfl fin1)) ?_
    refine DF.det rfl (fun a w K hS hA hF => TG.pa hS hA (fb 0 Tryz.underlying68 rfl rfl rfl rfl Tryz.sizeOf66 fin1)) ?_
    refine DF.det rfl (fun a w K hS hA hF => TG.pa hS hA (ld Tryz.isAgg66 rfl rfl ((sS 1 rfl hK6).take 1) rfl fin1)) ?_
    refine DF.det rfl (fun a w K hS hA hF => TG.pa hS hA (mv rfl rfl fin1)) ?_
    refine DF.det rfl (fun a w K hS hA hF => TG.pa hS hA (iaP Tryz.underlying66 Tryz.sizeOf74 rfl rfl rfl rfl (lt_of hx128) fin1)) ?_
    refine DF.det rfl (fun a w K hS hA hF => TG.pa hS hA (fb 1 Tryz.underlying74 rfl rfl rfl rfl Tryz.sizeOf3 fin1)) ?_
    refine DF.det rfl (fun a w K hS hA hF => TG.pa hS hA (ld Tryz.isAgg3 rfl rfl ((sS 2 rfl hq133).drop 1) rfl fin1)) ?_
    refine DF.det rfl (fun a w K hS hA hF => TG.pa hS hA (bu (cs := [.string (bs x127.text), .int .i64 x127.speaker]) T4.B58 rfl rfl rfl fin1)) ?_
    refine DF.und (α := Option Addr × Nat) (none, 0) (fun q => .slice q.1 1 q.2) (fun (q : Option Addr × Nat) K => Sl (Flat encSaid) 2 K q.1 q.2 ([x127] : List Said)) (fun _ _ _ h x => x.mono (Flat.mono _) h) (by kernel_rfl) rfl (fun a w K hS hA hF => TG.pa hS hA (bS (cs := [.string (bs x127.text), .int .i64 x127.speaker]) T4.E54 rfl rfl rfl rfl fun q135 K136 hq137 hK138 => by
      have hl139 : Sl (Flat encSaid) 2 K136 (some q135) 1 ([x127] : List Said) := Sl.litR (css := [[.string (bs x127.text), .int .i64 x127.speaker]]) (l := ([x127] : List Said)) ⟨⟨rfl, rfl, rfl⟩, trivial⟩ hq137 hK138 rfl
      have := hl139.len
      exact finU (f := fun q => .slice q.1 1 q.2) (G := (fun (q : Option Addr × Nat) K => Sl (Flat encSaid) 2 K q.1 q.2 ([x127] : List Said))) (_, _) (fun _ _ _ h x => x.mono (Flat.mono _) h) hl139)) ?_
    rintro ⟨ad141, cap142⟩
    refine DF.nil fun K143 hF => ?_
    obtain ⟨hu140, _⟩ := hF
    have := hu140.len
    obtain ⟨hk144, hr145⟩ := chk_some hr129
    have := lenA s95.2 ([x127] : List Said)
    refine apS 4 (enc := encSaid) (l := s95.2) (m := ([x127] : List Said)) T4.E54 rfl rfl rfl rfl rfl rfl hu140 0 rfl (fun _ => rfl) (fun _ => rfl) rfl hk144 fun ad146 cap147 => ?_
    refine fb 0 Tryz.underlying56 rfl rfl rfl rfl Tryz.sizeOf54 ?_
    refine sto 2 (cs := [.slice ad146 ((s95.2 ++ ([x127] : List Said)).length) cap147]) Tryz.sizeOf54 rfl rfl rfl rfl rfl rfl rfl ?_
    refine on ?_
    refine rg ?_
    refine mv rfl rfl ?_
    refine adI rfl rfl rfl (by omega) ?_
    refine av rfl rfl ?_
    refine on ?_
    obtain rfl := Option.some.inj hr145
    intro a w hS hA
    exact ⟨_, hz99, ad146, cap147, hS.selH [1, 2] rfl, hA.cut ⟨rfl, rfl, rfl, rfl, trivial⟩⟩
   ·have hr148 := if_n hc104 hr98
    refine xt rfl ?_
    obtain rfl := Option.some.inj hr148
    obtain rfl := Fin.out hz99
    intro a w hS hA
    exact ⟨ad96, cap97, hS, hA.cut ⟨rfl, rfl, trivial⟩⟩
 ·rintro a w ⟨ad93, cap94, hS, hA⟩
  refine TG.ap ?_ hS hA
  refine sq ?_
  refine rg ?_
  refine ldA Tryz.isAgg56 Tryz.sizeOf56 rfl rfl (sO 2 rfl) rfl ?_
  refine sto 1 (cs := [.slice ad93 e90.length cap94, .int .i64 r_0.out, .int .i64 r_0.within]) Tryz.sizeOf56 rfl rfl rfl rfl rfl rfl rfl ?_
  refine on ?_
  refine rt_ ?_
  obtain rfl := Option.some.inj hr92
  intro a w hS hA
  refine rc1 hA rfl (ResAt.cell rfl (loadsA Tryz.isAgg56 Tryz.sizeOf56 (cell_at (hS.get (t := 1) rfl)) rfl)) ?_
  exact ⟨⟨_, rfl, ⟨_, _, rfl, (hS.listOut 4 rfl (fun _ => rfl))⟩⟩, hS.ext⟩

theorem w32 {W : World} {H : Hp} (hH : H.le (hp W)) {ad_l_0 : Option Addr} {cap_l_0 : Nat} {l_0 : List Request} (h_l_0 : Sl (RRequest) 5 H ad_l_0 cap_l_0 l_0) {r : List Request} (hr : m32 l_0 = some r) : Calls Tryz.prog 32 [.slice ad_l_0 l_0.length cap_l_0].toArray W (RetK H W (fun v K => ∃ (ad0 : Option Addr) (cap0 : Nat), v = .slice ad0 r.length cap0 ∧ Sl (RRequest) 5 K ad0 cap0 r)) := by
 have := h_l_0.len
 unfold m32 at hr
 refine enterG Tryz.func32 rfl Tryz.ntmps32 rfl hH ?_
 refine sq ?_
 refine rg ?_
 refine av rfl rfl ?_
 refine on ?_
 refine sq ?_
 refine rg ?_
 refine av rfl rfl ?_
 refine on ?_
 refine sq ?_
 refine sq ?_
 refine rg ?_
 refine av rfl rfl ?_
 refine on ?_
 refine TG.nilRow 2 63 5 ?_
 have hR51 : Rows (RRequest) 5 H [] ([] : List Request) := trivial
 refine TG.as 2 (z := Own.rows none 0 63 5 [] ([] : List Request)) rfl rfl ?_
 obtain ⟨e165, hl166, hr167⟩ := bd_some hr
 refine jn (fun a w => ∃ (ad168 : Option Addr) (cap169 : Nat) (css170 : List (List Value)) (K171 : Hp), St [] W H [K171, H] [(2, Own.rows ad168 cap169 63 5 css170 e165)] w ∧ Has [] 32 a [(3, .slice ad168 e165.length cap169)] ∧ Rows (RRequest) 5 K171 css170 e165) ?_ ?_
 ·refine bk ?_
  refine lp hl166 (fun s173 a w => ∃ (ad174 : Option Addr) (cap175 : Nat) (css176 : List (List Value)) (K177 : Hp), St [] W H [K177, H] [(2, Own.rows ad174 cap175 63 5 css176 s173.2)] w ∧ Has [] 32 a [(0, .slice ad_l_0 l_0.length cap_l_0), (3, .slice ad174 s173.2.length cap175), (4, .int .i64 (s173.1 : Int))] ∧ Rows (RRequest) 5 K177 css176 s173.2) ?_ ?_
  ·intro a w hS hA
   exact ⟨none, 0, [], H, hS.selH [0, 0] rfl, hA.cut ⟨rfl, rfl, rfl, trivial⟩, hR51⟩
  ·rintro j s173 y181 hr179 hz180 a w ⟨ad174, cap175, css176, K177, hS, hA, hR178⟩
   refine TG.ap ?_ hS hA
   unfold m32_1 at hr179
   refine sq ?_
   refine sq ?_
   refine rg ?_
   refine mv rfl rfl ?_
   refine mv rfl rfl ?_
   refine lnL Tryz.underlying69 rfl rfl ?_
   refine ltI rfl rfl rfl ?_
   refine on ?_
   refine ci rfl (fun hc185 => ?_) (fun hc185 => ?_)
   ·have hr186 := if_p hc185 hr179
    refine sk ?_
    refine sq ?_
    refine bk ?_
    refine sq ?_
    refine rg ?_
    refine mv rfl rfl ?_
    refine mv rfl rfl ?_
    obtain ⟨x232, hx233, hr234⟩ := bd_some hr186
    obtain ⟨p235, rfl⟩ := h_l_0.adr hx233
    obtain ⟨cs236, hcs237, hq238, hr239⟩ := h_l_0.at hx233
    have hr240 := hr239
    obtain ⟨ad241, cap242, rfl, hl243⟩ := hr239
    have := hl243.len
    refine iaP Tryz.underlying69 Tryz.sizeOf73 rfl rfl rfl rfl (lt_of hx233) ?_
    refine ldA Tryz.isAgg73 Tryz.sizeOf73 rfl rfl (sS 1 rfl hq238) rfl ?_
    refine va (cs := [.int .i64 x232.by_, .int .i64 x232.minute, .int .i64 x232.from_, .int .i64 x232.cut, .slice ad241 x232.put_.length cap242]) Tryz.zeroValue73 Tryz.sizeOf73 rfl rfl rfl rfl rfl rfl rfl rfl fun q244 K245 hK246 => ?_
    refine on ?_
    obtain ⟨r247, hx248, hr249⟩ := bd_some hr234
    refine drG 14 T4.mixed (by kernel_rfl) rfl ?_
    refine DF.det rfl (fun a w K hS hA hF => TG.pa hS hA (mv rfl rfl fin1)) ?_
    refine DF.det rfl (fun a w K hS hA hF => TG.pa hS hA (fb 0 Tryz.underlying73 rfl rfl rfl rfl Tryz.sizeOf3 fin1)) ?_
    refine DF.det rfl (fun a w K hS hA hF => TG.pa hS hA (ld Tryz.isAgg3 rfl rfl ((sS 1 rfl hK246).take 1) rfl fin1)) ?_
    refine DF.det rfl (fun a w K hS hA hF => TG.pa hS hA (fb 1 Tryz.underlying73 rfl rfl rfl rfl Tryz.sizeOf3 fin1)) ?_
    refine DF.det rfl (fun a w K hS hA hF => TG.pa hS hA (ld Tryz.isAgg3 rfl rfl (((sS 1 rfl hK246).drop 1).take 1) rfl fin1)) ?_
    refine DF.det rfl (fun a w K hS hA hF => TG.pa hS hA (fb 2 Tryz.underlying73 rfl rfl rfl rfl Tryz.sizeOf3 fin1)) ?_
    refine DF.det rfl (fun a w K hS hA hF => TG.pa hS hA (ld Tryz.isAgg3 rfl rfl (((sS 1 rfl hK246).drop 2).take 1) rfl fin1)) ?_
    refine DF.det rfl (fun a w K hS hA hF => TG.pa hS hA (fb 3 Tryz.underlying73 rfl rfl rfl rfl Tryz.sizeOf3 fin1)) ?_
    refine DF.det rfl (fun a w K hS hA hF => TG.pa hS hA (ld Tryz.isAgg3 rfl rfl (((sS 1 rfl hK246).drop 3).take 1) rfl fin1)) ?_
    refine DF.det rfl (fun a w K hS hA hF => TG.pa hS hA (fb 4 Tryz.underlying73 rfl rfl rfl rfl Tryz.sizeOf24 fin1)) ?_
    refine DF.det rfl (fun a w K hS hA hF => TG.pa hS hA (ld Tryz.isAgg24 rfl rfl ((sS 1 rfl hK246).drop 4) rfl fin1)) ?_
    refine DF.und (α := Option Addr × Nat) (none, 0) (fun q => .slice q.1 r247.length q.2) (fun (q : Option Addr × Nat) K => Sl (Flat encS) 1 K q.1 q.2 r247) (fun _ _ _ h x => x.mono (Flat.mono _) h) (by kernel_rfl) rfl (fun a w K hS hA hF => TG.pa hS hA (clK Tryz.call21 rfl rfl rfl rfl (fun w H hH le => w21 hH (hl243.mono (Flat.mono _) (le.at 3 rfl)) hx248) (by
      rintro v_ K250 ⟨ad251, cap252, rfl, hl253⟩
      exact finU (f := fun q => .slice q.1 r247.length q.2) (G := (fun (q : Option Addr × Nat) K => Sl (Flat encS) 1 K q.1 q.2 r247)) (_, _) (fun _ _ _ h x => x.mono (Flat.mono _) h) hl253))) ?_
    rintro ⟨ad255, cap256⟩
    refine DF.und () (fun _ => .agg [.int .i64 x232.by_, .int .i64 x232.minute, .int .i64 x232.from_, .int .i64 x232.cut, .slice ad255 r247.length cap256].toArray) (fun _ K => Sl (Flat encS) 1 K ad255 cap256 r247) (fun _ _ _ h x => x.mono (Flat.mono _) h) (by kernel_rfl) rfl (fun a w K hS hA hF => TG.pa hS hA (bu (cs := [.int .i64 x232.by_, .int .i64 x232.minute, .int .i64 x232.from_, .int .i64 x232.cut, .slice ad255 r247.length cap256]) T4.B63 rfl rfl rfl (finF (f := fun _ => .agg [.int .i64 x232.by_, .int .i64 x232.minute, .int .i64 x232.from_, .int .i64 x232.cut, .slice ad255 r247.length cap256].toArray) (G := fun _ K => Sl (Flat encS) 1 K ad255 cap256 r247) () (hF.1 rfl)))) fun _ => ?_
    refine DF.und (α := Option Addr × Nat) (none, 0) (fun q => .slice q.1 1 q.2) (fun (q : Option Addr × Nat) K => Sl (RRequest) 5 K q.1 q.2 ([(⟨x232.by_, x232.minute, x232.from_, x232.cut, r247⟩ : Request)] : List Request)) (fun _ _ _ h x => x.mono (RRequest.mono) h) (by kernel_rfl) rfl (fun a w K hS hA hF => TG.pa hS hA (bS (cs := [.int .i64 x232.by_, .int .i64 x232.minute, .int .i64 x232.from_, .int .i64 x232.cut, .slice ad255 r247.length cap256]) T4.E64 rfl rfl rfl rfl fun q258 K259 hq260 hK261 => by
      refine TG.pack (fun K => Sl (RRequest) 5 K (some q258) 1 ([(⟨x232.by_, x232.minute, x232.from_, x232.cut, r247⟩ : Request)] : List Request)) (fun H le => Sl.litR (css := [[.int .i64 x232.by_, .int .i64 x232.minute, .int .i64 x232.from_, .int .i64 x232.cut, .slice ad255 r247.length cap256]]) (l := ([(⟨x232.by_, x232.minute, x232.from_, x232.cut, r247⟩ : Request)] : List Request)) ⟨⟨rfl, rfl, ⟨_, _, rfl, ((hF.1 rfl).mono (Flat.mono _) (le.at 1 rfl))⟩⟩, trivial⟩ hq260 (hK261.mono (le.at 0 rfl)) rfl) fun K263 hl262 => ?_
      have := hl262.len
      refine sk1 ?_
      exact finU (f := fun q => .slice q.1 1 q.2) (G := (fun (q : Option Addr × Nat) K => Sl (RRequest) 5 K q.1 q.2 ([(⟨x232.by_, x232.minute, x232.from_, x232.cut, r247⟩ : Request)] : List Request))) (_, _) (fun _ _ _ h x => x.mono (RRequest.mono) h) hl262)) ?_
    rintro ⟨ad265, cap266⟩
    refine DF.nil fun K267 hF => ?_
    obtain ⟨hu264, hu257, hu254, _⟩ := hF
    have := hu254.len
    have := hu264.len
    obtain ⟨hk268, hr269⟩ := chk_some hr249
    have := lenA s173.2 ([(⟨x232.by_, x232.minute, x232.from_, x232.cut, r247⟩ : Request)] : List Request)
    refine TG.pack (fun K => Sl (RRequest) 5 K ad265 cap266 ([(⟨x232.by_, x232.minute, x232.from_, x232.cut, r247⟩ : Request)] : List Request) ∧ Rows (RRequest) 5 K css176 s173.2) (fun H le => ⟨hu264.mono (RRequest.mono) (le.at 0 rfl), hR178.mono (RRequest.mono) (le.at 2 rfl)⟩) fun K272 ⟨hm273, hR274⟩ => ?_
    refine apR 2 (l := s173.2) (m := ([(⟨x232.by_, x232.minute, x232.from_, x232.cut, r247⟩ : Request)] : List Request)) T4.E64 rfl rfl rfl rfl rfl rfl hm273 hR274 RRequest.one rfl hk268 fun ad270 cap271 css276 hR275 => ?_
    refine av rfl rfl ?_
    refine on ?_
    refine rg ?_
    refine mv rfl rfl ?_
    refine adI rfl rfl rfl (by omega) ?_
    refine av rfl rfl ?_
    refine on ?_
    obtain rfl := Option.some.inj hr269
    intro a w hS hA
    exact ⟨_, hz180, ad270, cap271, css276, K272, hS.selH [0, 4] rfl, hA.cut ⟨rfl, rfl, rfl, trivial⟩, hR275⟩
   ·have hr277 := if_n hc185 hr179
    refine xt rfl ?_
    obtain rfl := Option.some.inj hr277
    obtain rfl := Fin.out hz180
    intro a w hS hA
    exact ⟨ad174, cap175, css176, K177, hS, hA.cut ⟨rfl, trivial⟩, hR178⟩
 ·rintro a w ⟨ad168, cap169, css170, K171, hS, hA, hR172⟩
  refine TG.ap ?_ hS hA
  refine sq ?_
  refine rg ?_
  refine mv rfl rfl ?_
  refine av rfl rfl ?_
  refine on ?_
  refine rt_ ?_
  obtain rfl := Option.some.inj hr167
  intro a w hS hA
  refine ret1 hA rfl rfl ?_
  exact ⟨⟨_, _, rfl, (hS.rowsOut 2 rfl 0 rfl (RRequest.mono) hR172)⟩, hS.ext⟩

theorem w5 {W : World} {H : Hp} (hH : H.le (hp W)) (hg : Gv H) {cs_l_0 : List Value} (l_0 : Lexicon) (h_l_0 : (RLexicon) H cs_l_0 l_0) {ad_swaps : Option Addr} {cap_swaps : Nat} {swaps : List Swap} (h_swaps : Sl (Flat encSwap) 3 H ad_swaps cap_swaps swaps) {cs_r_2 : List Value} (r_2 : Report) (h_r_2 : (RReport) H cs_r_2 r_2) {ad_requests : Option Addr} {cap_requests : Nat} {requests : List Request} (h_requests : Sl (RRequest) 5 H ad_requests cap_requests requests) {r : Bool} (hr : m5 l_0 swaps r_2 requests = some r) : Calls Tryz.prog 5 [.agg cs_l_0.toArray, .slice ad_swaps swaps.length cap_swaps, .agg cs_r_2.toArray, .slice ad_requests requests.length cap_requests].toArray W (RetS W (.bool r)) := by
 have hh_l_0 := h_l_0
 obtain ⟨ad1, cap2, ad4, cap5, ad7, cap8, rfl, hl3, hl6, hl9⟩ := h_l_0
 have := hl3.len
 have := hl6.len
 have := hl9.len
 have := h_swaps.len
 have hh_r_2 := h_r_2
 obtain ⟨ad10, cap11, rfl, hl12⟩ := h_r_2
 have := hl12.len
 have := h_requests.len
 unfold m5 at hr
 refine enterG Tryz.func5 rfl Tryz.ntmps5 rfl hH ?_
 refine sq ?_
 refine rg ?_
 refine bI (cs := [.slice ad1 l_0.numbers.length cap2, .slice ad4 l_0.names.length cap5, .slice ad7 l_0.nots.length cap8]) rfl rfl rfl fun q13 K14 hK15 => ?_
 refine bI (cs := [.slice ad10 r_2.words.length cap11, .int .i64 r_2.out, .int .i64 r_2.within]) rfl rfl rfl fun q16 K17 hK18 => ?_
 refine av rfl rfl ?_
 refine on ?_
 refine sq ?_
 refine sq ?_
 refine rg ?_
 refine ldA Tryz.isAgg26 Tryz.sizeOf26 rfl rfl (sS 1 rfl hK15) rfl ?_
 refine mv rfl rfl ?_
 refine ldA Tryz.isAgg68 Tryz.sizeOf68 rfl rfl (sS 0 rfl hK18) rfl ?_
 refine mv rfl rfl ?_
 obtain ⟨r19, hx20, hr21⟩ := bd_some hr
 refine clS Tryz.call30 rfl rfl rfl rfl (fun w H hH le => w30 hH l_0 (RLexicon.mono _ _ _ _ (le.at 2 rfl) hh_l_0) (h_swaps.mono (Flat.mono _) (le.at 2 rfl)) r_2 (RReport.mono _ _ _ _ (le.at 2 rfl) hh_r_2) (h_requests.mono (RRequest.mono) (le.at 2 rfl)) hx20) ?_
 refine nt rfl rfl ?_
 refine on ?_
 refine cb rfl (fun hc28 => ?_) (fun hc28 => ?_)
 ·replace hc28 := nbt hc28
  have hr29 := if_f hc28 hr21
  refine sq ?_
  refine rg ?_
  obtain ⟨r30, hx31, hr32⟩ := bd_some hr29
  refine clS Tryz.call17 rfl rfl rfl rfl (fun w H hH le => w17 hH (hg.mono (le.at 2 rfl))  hx31) ?_
  refine av rfl rfl ?_
  refine on ?_
  refine rt_ ?_
  obtain rfl := Option.some.inj hr32
  intro a w hS hA
  refine ret1 hA rfl rfl ?_
  exact ⟨rfl, hS.ext⟩
 ·replace hc28 := nbf hc28
  have hr33 := if_p hc28 hr21
  refine sk ?_
  refine sq ?_
  obtain ⟨r34, hx35, hr36⟩ := bd_some hr33
  obtain ⟨r42, hx43, hr44⟩ := bd_some hr36
  obtain ⟨r52, hx53, hr54⟩ := bd_some hr44
  obtain ⟨r60, hx61, hr62⟩ := bd_some hr54
  obtain ⟨r70, hx71, hr72⟩ := bd_some hr62
  refine drG 13 T4.mixed (by kernel_rfl) rfl ?_
  refine DF.det rfl (fun a w K hS hA hF => TG.pa hS hA (ldA Tryz.isAgg26 Tryz.sizeOf26 rfl rfl (sS 2 rfl hK15) rfl fin1)) ?_
  refine DF.und (α := List Value) [] (fun q => .agg q.toArray) (fun (q : List Value) K => (RLexicon) K q r34) (fun _ _ _ h x => RLexicon.mono _ _ _ _ h x) (by kernel_rfl) rfl (fun a w K hS hA hF => TG.pa hS hA (clK Tryz.call19 rfl rfl rfl rfl (fun w H hH le => w19 hH l_0 (RLexicon.mono _ _ _ _ (le.at 3 rfl) hh_l_0) hx35) (by
    rintro v_ K37 ⟨cs38, rfl, hr39⟩
    exact finU (f := fun q => .agg q.toArray) (G := (fun (q : List Value) K => (RLexicon) K q r34)) _ (fun _ _ _ h x => RLexicon.mono _ _ _ _ h x) hr39))) fun cs41 => ?_
  refine DF.det rfl (fun a w K hS hA hF => TG.pa hS hA (mv rfl rfl fin1)) ?_
  refine DF.und (α := Option Addr × Nat) (none, 0) (fun q => .slice q.1 r42.length q.2) (fun (q : Option Addr × Nat) K => Sl (Flat encSwap) 3 K q.1 q.2 r42) (fun _ _ _ h x => x.mono (Flat.mono _) h) (by kernel_rfl) rfl (fun a w K hS hA hF => TG.pa hS hA (clK Tryz.call20 rfl rfl rfl rfl (fun w H hH le => w20 hH (h_swaps.mono (Flat.mono _) (le.at 3 rfl)) hx43) (by
    rintro v_ K45 ⟨ad46, cap47, rfl, hl48⟩
    exact finU (f := fun q => .slice q.1 r42.length q.2) (G := (fun (q : Option Addr × Nat) K => Sl (Flat encSwap) 3 K q.1 q.2 r42)) (_, _) (fun _ _ _ h x => x.mono (Flat.mono _) h) hl48))) ?_
  rintro ⟨ad50, cap51⟩
  refine DF.det rfl (fun a w K hS hA hF => TG.pa hS hA (ldA Tryz.isAgg68 Tryz.sizeOf68 rfl rfl (sS 1 rfl hK18) rfl fin1)) ?_
  refine DF.und (α := List Value) [] (fun q => .agg q.toArray) (fun (q : List Value) K => (RReport) K q r52) (fun _ _ _ h x => RReport.mono _ _ _ _ h x) (by kernel_rfl) rfl (fun a w K hS hA hF => TG.pa hS hA (clK Tryz.call31 rfl rfl rfl rfl (fun w H hH le => w31 hH r_2 (RReport.mono _ _ _ _ (le.at 3 rfl) hh_r_2) hx53) (by
    rintro v_ K55 ⟨cs56, rfl, hr57⟩
    exact finU (f := fun q => .agg q.toArray) (G := (fun (q : List Value) K => (RReport) K q r52)) _ (fun _ _ _ h x => RReport.mono _ _ _ _ h x) hr57))) fun cs59 => ?_
  refine DF.det rfl (fun a w K hS hA hF => TG.pa hS hA (mv rfl rfl fin1)) ?_
  refine DF.und (α := Option Addr × Nat) (none, 0) (fun q => .slice q.1 r60.length q.2) (fun (q : Option Addr × Nat) K => Sl (RRequest) 5 K q.1 q.2 r60) (fun _ _ _ h x => x.mono (RRequest.mono) h) (by kernel_rfl) rfl (fun a w K hS hA hF => TG.pa hS hA (clK Tryz.call32 rfl rfl rfl rfl (fun w H hH le => w32 hH (h_requests.mono (RRequest.mono) (le.at 3 rfl)) hx61) (by
    rintro v_ K63 ⟨ad64, cap65, rfl, hl66⟩
    exact finU (f := fun q => .slice q.1 r60.length q.2) (G := (fun (q : Option Addr × Nat) K => Sl (RRequest) 5 K q.1 q.2 r60)) (_, _) (fun _ _ _ h x => x.mono (RRequest.mono) h) hl66))) ?_
  rintro ⟨ad68, cap69⟩
  refine DF.und (α := Option Addr × Nat) (none, 0) (fun q => .tuple [.slice q.1 r70.1.length q.2, .int .i64 r70.2].toArray) (fun (q : Option Addr × Nat) K => Sl (Flat (encI .i64)) 1 K q.1 q.2 r70.1) (fun _ _ _ h x => x.mono (Flat.mono _) h) (by kernel_rfl) rfl (fun a w K hS hA hF => TG.pa hS hA (clK Tryz.call29 rfl rfl rfl rfl (fun w H hH le => w29 hH (hg.mono (le.at 3 rfl)) r34 (RLexicon.mono _ _ _ _ (le.at 0 rfl) (hF.2.2.2.1 rfl)) ((hF.2.2.1 rfl).mono (Flat.mono _) (le.at 0 rfl)) r52 (RReport.mono _ _ _ _ (le.at 0 rfl) (hF.2.1 rfl)) ((hF.1 rfl).mono (RRequest.mono) (le.at 0 rfl)) hx71) (by
    rintro v_ K73 ⟨ad74, cap75, rfl, hl76⟩
    exact finU (f := fun q => .tuple [.slice q.1 r70.1.length q.2, .int .i64 r70.2].toArray) (G := (fun (q : Option Addr × Nat) K => Sl (Flat (encI .i64)) 1 K q.1 q.2 r70.1)) (ad74, cap75) (fun _ _ _ h x => x.mono (Flat.mono _) h) hl76))) ?_
  rintro ⟨ad78, cap79⟩
  refine DF.und () (fun _ => .tuple [.slice ad78 r70.1.length cap79, .int .i64 r70.2].toArray) (fun _ K => Sl (Flat (encI .i64)) 1 K ad78 cap79 r70.1) (fun _ _ _ h x => x.mono (Flat.mono _) h) (by kernel_rfl) rfl (fun a w K hS hA hF => TG.pa hS hA (mv rfl rfl (finF (f := fun _ => .tuple [.slice ad78 r70.1.length cap79, .int .i64 r70.2].toArray) (G := fun _ K => Sl (Flat (encI .i64)) 1 K ad78 cap79 r70.1) () (hF.1 rfl)))) fun _ => ?_
  refine DF.und () (fun _ => .slice ad78 r70.1.length cap79) (fun _ K => Sl (Flat (encI .i64)) 1 K ad78 cap79 r70.1) (fun _ _ _ h x => x.mono (Flat.mono _) h) (by kernel_rfl) rfl (fun a w K hS hA hF => TG.pa hS hA (ex rfl rfl rfl (finF (f := fun _ => .slice ad78 r70.1.length cap79) (G := fun _ K => Sl (Flat (encI .i64)) 1 K ad78 cap79 r70.1) () (hF.1 rfl)))) fun _ => ?_
  refine DF.det rfl (fun a w K hS hA hF => TG.pa hS hA (ex rfl rfl rfl fin1)) ?_
  refine DF.und () (fun _ => .slice ad78 r70.1.length cap79) (fun _ K => Sl (Flat (encI .i64)) 1 K ad78 cap79 r70.1) (fun _ _ _ h x => x.mono (Flat.mono _) h) (by kernel_rfl) rfl (fun a w K hS hA hF => TG.pa hS hA (av rfl rfl (finF (f := fun _ => .slice ad78 r70.1.length cap79) (G := fun _ K => Sl (Flat (encI .i64)) 1 K ad78 cap79 r70.1) () (hF.1 rfl)))) fun _ => ?_
  refine DF.nil fun K83 hF => ?_
  obtain ⟨hu82, hu81, hu80, hu77, hu67, hu58, hu49, hu40, _⟩ := hF
  have hr84 := hu40
  obtain ⟨ad85, cap86, ad88, cap89, ad91, cap92, rfl, hl87, hl90, hl93⟩ := hu40
  have := hl87.len
  have := hl90.len
  have := hl93.len
  have := hu49.len
  have hr94 := hu58
  obtain ⟨ad95, cap96, rfl, hl97⟩ := hu58
  have := hl97.len
  have := hu67.len
  have := hu77.len
  refine av rfl rfl ?_
  refine on ?_
  refine sq ?_
  refine sq ?_
  obtain ⟨t101, hx102, hr103⟩ := bd_some hr72
  refine jn (fun a w => St [] W H [K83, K17, K14, H] [] w ∧ Has [] 150 a [(3, .slice ad_requests requests.length cap_requests), (6, .pointer (some q16)), (9, .slice ad78 r70.1.length cap79), (43, .bool t101)]) ?_ ?_
  ·refine rg ?_
   refine mv rfl rfl ?_
   refine neI rfl rfl rfl ?_
   refine mv rfl rfl ?_
   by_cases hb104 : r70.2 ≠ 0
   ·have hr105 := if_p hb104 hx102
    refine gF rfl rfl (decide_eq_true hb104) rfl ?_
    refine gF rfl rfl (decide_eq_true hb104) rfl ?_
    refine gF rfl rfl (decide_eq_true hb104) rfl ?_
    refine gF rfl rfl (decide_eq_true hb104) rfl ?_
    refine gF rfl rfl (decide_eq_true hb104) rfl ?_
    refine pT rfl rfl (decide_eq_true hb104) rfl ?_
    refine on ?_
    obtain rfl := Option.some.inj hr105
    intro a w hS hA
    exact ⟨hS, hA.cut ⟨rfl, rfl, rfl, rfl, trivial⟩⟩
   ·have hr106 := if_n hb104 hx102
    refine gN rfl rfl (decide_eq_false hb104) ?_
    refine mv rfl rfl ?_
    refine gN rfl rfl (decide_eq_false hb104) ?_
    refine lnL Tryz.underlying59 rfl rfl ?_
    refine gN rfl rfl (decide_eq_false hb104) ?_
    refine mv rfl rfl ?_
    refine gN rfl rfl (decide_eq_false hb104) ?_
    refine lnL Tryz.underlying69 rfl rfl ?_
    refine gN rfl rfl (decide_eq_false hb104) ?_
    refine neI rfl rfl rfl ?_
    refine pF rfl rfl (decide_eq_false hb104) rfl ?_
    refine on ?_
    obtain rfl := Option.some.inj hr106
    intro a w hS hA
    exact ⟨hS, hA.cut ⟨rfl, rfl, rfl, rfl, trivial⟩⟩
  ·rintro a w ⟨hS, hA⟩
   refine TG.ap ?_ hS hA
   refine cb rfl (fun hc110 => ?_) (fun hc110 => ?_)
   ·have hr111 := if_p hc110 hr103
    refine sq ?_
    refine rg ?_
    refine av rfl rfl ?_
    refine on ?_
    refine rt_ ?_
    obtain rfl := Option.some.inj hr111
    intro a w hS hA
    refine ret1 hA rfl rfl ?_
    exact ⟨rfl, hS.ext⟩
   ·have hr112 := if_f hc110 hr103
    refine sk ?_
    refine sq ?_
    refine sq ?_
    refine rg ?_
    refine av rfl rfl ?_
    refine on ?_
    obtain ⟨e216, hl217, hr218⟩ := bd_some hr112
    refine jn (fun a w => ∃ t219, e216 = .inl t219 ∧ St [] W H [K83, K17, K14, H] [] w ∧ Has [] 150 a []) ?_ ?_
    ·refine bk ?_
     refine lp hl217 (fun s220 a w => St [] W H [K83, K17, K14, H] [] w ∧ Has [] 150 a [(3, .slice ad_requests requests.length cap_requests), (6, .pointer (some q16)), (9, .slice ad78 r70.1.length cap79), (11, .int .i64 (s220 : Int))]) ?_ ?_
     ·intro a w hS hA
      exact ⟨hS, hA.cut ⟨rfl, rfl, rfl, rfl, trivial⟩⟩
     ·rintro j s220 y223 hr221 hz222 a w ⟨hS, hA⟩
      refine TG.ap ?_ hS hA
      unfold m5_1 at hr221
      refine sq ?_
      refine sq ?_
      refine rg ?_
      refine mv rfl rfl ?_
      refine mv rfl rfl ?_
      refine lnL Tryz.underlying59 rfl rfl ?_
      refine ltI rfl rfl rfl ?_
      refine on ?_
      refine ci rfl (fun hc227 => ?_) (fun hc227 => ?_)
      ·have hr228 := if_p hc227 hr221
       refine sk ?_
       refine sq ?_
       obtain ⟨t327, hx328, hr329⟩ := bd_some hr228
       refine jn (fun a w => ∃ t330, t327 = .inl t330 ∧ St [] W H [K83, K17, K14, H] [] w ∧ Has [] 150 a [(3, .slice ad_requests requests.length cap_requests), (6, .pointer (some q16)), (9, .slice ad78 r70.1.length cap79), (11, .int .i64 (s220 : Int))]) ?_ ?_
       ·refine bk ?_
        refine sq ?_
        refine rg ?_
        refine mv rfl rfl ?_
        refine mv rfl rfl ?_
        obtain ⟨x331, hx332, hr333⟩ := bd_some hx328
        obtain ⟨p334, rfl⟩ := h_requests.adr hx332
        obtain ⟨cs335, hcs336, hq337, hr338⟩ := h_requests.at hx332
        have hr339 := hr338
        obtain ⟨ad340, cap341, rfl, hl342⟩ := hr338
        have := hl342.len
        refine iaP Tryz.underlying69 Tryz.sizeOf73 rfl rfl rfl rfl (lt_of hx332) ?_
        refine ldA Tryz.isAgg73 Tryz.sizeOf73 rfl rfl (sS 3 rfl hq337) rfl ?_
        refine va (cs := [.int .i64 x331.by_, .int .i64 x331.minute, .int .i64 x331.from_, .int .i64 x331.cut, .slice ad340 x331.put_.length cap341]) Tryz.zeroValue73 Tryz.sizeOf73 rfl rfl rfl rfl rfl rfl rfl rfl fun q343 K344 hK345 => ?_
        refine on ?_
        refine sq ?_
        refine sq ?_
        refine rg ?_
        refine mv rfl rfl ?_
        refine mv rfl rfl ?_
        obtain ⟨x346, hx347, hr348⟩ := bd_some hr333
        obtain ⟨p349, rfl⟩ := hu82.adr hx347
        obtain ⟨cs350, hcs351, hq352, hr353⟩ := hu82.at hx347
        obtain rfl := hr353
        refine iaP Tryz.underlying59 Tryz.sizeOf31 rfl rfl rfl rfl (lt_of hx347) ?_
        refine ld Tryz.isAgg31 rfl rfl (sS 1 rfl hq352) rfl ?_
        refine neI rfl rfl rfl ?_
        refine on ?_
        refine ci rfl (fun hc357 => ?_) (fun hc357 => ?_)
        ·have hr358 := if_p hc357 hr348
         refine xt rfl ?_
         obtain rfl := Option.some.inj hr358
         intro a w hS hA
         exact ⟨_, rfl, hS.selH [1, 2, 3, 4] rfl, hA.cut ⟨rfl, rfl, rfl, rfl, trivial⟩⟩
        ·have hr359 := if_n hc357 hr348
         refine sk ?_
         refine sq ?_
         refine sq ?_
         obtain ⟨t379, hx380, hr381⟩ := bd_some hr359
         refine jn (fun a w => St [] W H [K344, K83, K17, K14, H] [] w ∧ Has [] 150 a [(3, .slice (some p334) requests.length cap_requests), (6, .pointer (some q16)), (9, .slice (some p349) r70.1.length cap79), (11, .int .i64 (s220 : Int)), (12, .pointer (some q343)), (99, .bool t379)]) ?_ ?_
         ·refine rg ?_
          refine fb 2 Tryz.underlying73 rfl rfl rfl rfl Tryz.sizeOf3 ?_
          refine ld Tryz.isAgg3 rfl rfl (((sS 0 rfl hK345).drop 2).take 1) rfl ?_
          refine ltI rfl rfl rfl ?_
          refine mv rfl rfl ?_
          by_cases hb382 : x331.from_ < 0
          ·have hr383 := if_p hb382 hx380
           refine gF rfl rfl (decide_eq_true hb382) rfl ?_
           refine gF rfl rfl (decide_eq_true hb382) rfl ?_
           refine gF rfl rfl (decide_eq_true hb382) rfl ?_
           refine pT rfl rfl (decide_eq_true hb382) rfl ?_
           refine mv rfl rfl ?_
           refine gF rfl rfl rfl rfl ?_
           refine gF rfl rfl rfl rfl ?_
           refine gF rfl rfl rfl rfl ?_
           refine pT rfl rfl rfl rfl ?_
           refine mv rfl rfl ?_
           refine gF rfl rfl rfl rfl ?_
           refine gF rfl rfl rfl rfl ?_
           refine gF rfl rfl rfl rfl ?_
           refine gF rfl rfl rfl rfl ?_
           refine gF rfl rfl rfl rfl ?_
           refine gF rfl rfl rfl rfl ?_
           refine gF rfl rfl rfl rfl ?_
           refine gF rfl rfl rfl rfl ?_
           refine gF rfl rfl rfl rfl ?_
           refine pT rfl rfl rfl rfl ?_
           refine mv rfl rfl ?_
           refine gF rfl rfl rfl rfl ?_
           refine gF rfl rfl rfl rfl ?_
           refine gF rfl rfl rfl rfl ?_
           refine gF rfl rfl rfl rfl ?_
           refine gF rfl rfl rfl rfl ?_
           refine pT rfl rfl rfl rfl ?_
           refine mv rfl rfl ?_
           refine gF rfl rfl rfl rfl ?_
           refine gF rfl rfl rfl rfl ?_
           refine gF rfl rfl rfl rfl ?_
           refine gF rfl rfl rfl rfl ?_
           refine gF rfl rfl rfl rfl ?_
           refine gF rfl rfl rfl rfl ?_
           refine gF rfl rfl rfl rfl ?_
           refine gF rfl rfl rfl rfl ?_
           refine pT rfl rfl rfl rfl ?_
           refine on ?_
           obtain rfl := Option.some.inj hr383
           intro a w hS hA
           exact ⟨hS, hA.cut ⟨rfl, rfl, rfl, rfl, rfl, rfl, trivial⟩⟩
          ·have hr384 := if_n hb382 hx380
           refine gN rfl rfl (decide_eq_false hb382) ?_
           refine fb 3 Tryz.underlying73 rfl rfl rfl rfl Tryz.sizeOf3 ?_
           refine gN rfl rfl (decide_eq_false hb382) ?_
           refine ld Tryz.isAgg3 rfl rfl (((sS 0 rfl hK345).drop 3).take 1) rfl ?_
           refine gN rfl rfl (decide_eq_false hb382) ?_
           refine ltI rfl rfl rfl ?_
           refine pF rfl rfl (decide_eq_false hb382) rfl ?_
           refine mv rfl rfl ?_
           by_cases hb385 : x331.cut < 0
           ·have hr386 := if_p hb385 hr384
            refine gF rfl rfl (decide_eq_true hb385) rfl ?_
            refine gF rfl rfl (decide_eq_true hb385) rfl ?_
            refine gF rfl rfl (decide_eq_true hb385) rfl ?_
            refine pT rfl rfl (decide_eq_true hb385) rfl ?_
            refine mv rfl rfl ?_
            refine gF rfl rfl rfl rfl ?_
            refine gF rfl rfl rfl rfl ?_
            refine gF rfl rfl rfl rfl ?_
            refine gF rfl rfl rfl rfl ?_
            refine gF rfl rfl rfl rfl ?_
            refine gF rfl rfl rfl rfl ?_
            refine gF rfl rfl rfl rfl ?_
            refine gF rfl rfl rfl rfl ?_
            refine gF rfl rfl rfl rfl ?_
            refine pT rfl rfl rfl rfl ?_
            refine mv rfl rfl ?_
            refine gF rfl rfl rfl rfl ?_
            refine gF rfl rfl rfl rfl ?_
            refine gF rfl rfl rfl rfl ?_
            refine gF rfl rfl rfl rfl ?_
            refine gF rfl rfl rfl rfl ?_
            refine pT rfl rfl rfl rfl ?_
            refine mv rfl rfl ?_
            refine gF rfl rfl rfl rfl ?_
            refine gF rfl rfl rfl rfl ?_
            refine gF rfl rfl rfl rfl ?_
            refine gF rfl rfl rfl rfl ?_
            refine gF rfl rfl rfl rfl ?_
            refine gF rfl rfl rfl rfl ?_
            refine gF rfl rfl rfl rfl ?_
            refine gF rfl rfl rfl rfl ?_
            refine pT rfl rfl rfl rfl ?_
            refine on ?_
            obtain rfl := Option.some.inj hr386
            intro a w hS hA
            exact ⟨hS, hA.cut ⟨rfl, rfl, rfl, rfl, rfl, rfl, trivial⟩⟩
           ·have hr387 := if_n hb385 hr384
            refine gN rfl rfl (decide_eq_false hb385) ?_
            refine fb 3 Tryz.underlying73 rfl rfl rfl rfl Tryz.sizeOf3 ?_
            refine gN rfl rfl (decide_eq_false hb385) ?_
            refine ld Tryz.isAgg3 rfl rfl (((sS 0 rfl hK345).drop 3).take 1) rfl ?_
            refine gN rfl rfl (decide_eq_false hb385) ?_
            refine gtI rfl rfl rfl ?_
            refine pF rfl rfl (decide_eq_false hb385) rfl ?_
            refine mv rfl rfl ?_
            by_cases hb388 : 8 < x331.cut
            ·have hr389 := if_p hb388 hr387
             refine gF rfl rfl (decide_eq_true hb388) rfl ?_
             refine gF rfl rfl (decide_eq_true hb388) rfl ?_
             refine gF rfl rfl (decide_eq_true hb388) rfl ?_
             refine gF rfl rfl (decide_eq_true hb388) rfl ?_
             refine gF rfl rfl (decide_eq_true hb388) rfl ?_
             refine gF rfl rfl (decide_eq_true hb388) rfl ?_
             refine gF rfl rfl (decide_eq_true hb388) rfl ?_
             refine gF rfl rfl (decide_eq_true hb388) rfl ?_
             refine gF rfl rfl (decide_eq_true hb388) rfl ?_
             refine pT rfl rfl (decide_eq_true hb388) rfl ?_
             refine mv rfl rfl ?_
             refine gF rfl rfl rfl rfl ?_
             refine gF rfl rfl rfl rfl ?_
             refine gF rfl rfl rfl rfl ?_
             refine gF rfl rfl rfl rfl ?_
             refine gF rfl rfl rfl rfl ?_
             refine pT rfl rfl rfl rfl ?_
             refine mv rfl rfl ?_
             refine gF rfl rfl rfl rfl ?_
             refine gF rfl rfl rfl rfl ?_
             refine gF rfl rfl rfl rfl ?_
             refine gF rfl rfl rfl rfl ?_
             refine gF rfl rfl rfl rfl ?_
             refine gF rfl rfl rfl rfl ?_
             refine gF rfl rfl rfl rfl ?_
             refine gF rfl rfl rfl rfl ?_
             refine pT rfl rfl rfl rfl ?_
             refine on ?_
             obtain rfl := Option.some.inj hr389
             intro a w hS hA
             exact ⟨hS, hA.cut ⟨rfl, rfl, rfl, rfl, rfl, rfl, trivial⟩⟩
            ·have hr390 := if_n hb388 hr387
             refine gN rfl rfl (decide_eq_false hb388) ?_
             refine fb 2 Tryz.underlying73 rfl rfl rfl rfl Tryz.sizeOf3 ?_
             refine gN rfl rfl (decide_eq_false hb388) ?_
             refine ld Tryz.isAgg3 rfl rfl (((sS 0 rfl hK345).drop 2).take 1) rfl ?_
             refine gN rfl rfl (decide_eq_false hb388) ?_
             refine fb 3 Tryz.underlying73 rfl rfl rfl rfl Tryz.sizeOf3 ?_
             refine gN rfl rfl (decide_eq_false hb388) ?_
             refine ld Tryz.isAgg3 rfl rfl (((sS 0 rfl hK345).drop 3).take 1) rfl ?_
             refine gN rfl rfl (decide_eq_false hb388) ?_
             obtain ⟨hk391, hr392⟩ := chk_some hr390
             refine adI rfl rfl rfl hk391 ?_
             refine gN rfl rfl (decide_eq_false hb388) ?_
             refine fb 0 Tryz.underlying68 rfl rfl rfl rfl Tryz.sizeOf66 ?_
             refine gN rfl rfl (decide_eq_false hb388) ?_
             refine ld Tryz.isAgg66 rfl rfl ((sS 2 rfl hK18).take 1) rfl ?_
             refine gN rfl rfl (decide_eq_false hb388) ?_
             refine lnL Tryz.underlying66 rfl rfl ?_
             refine gN rfl rfl (decide_eq_false hb388) ?_
             refine gtI rfl rfl rfl ?_
             refine pF rfl rfl (decide_eq_false hb388) rfl ?_
             refine mv rfl rfl ?_
             by_cases hb393 : (r_2.words.length : Int) < (x331.from_ + x331.cut)
             ·have hr394 := if_p hb393 hr392
              refine gF rfl rfl (decide_eq_true hb393) rfl ?_
              refine gF rfl rfl (decide_eq_true hb393) rfl ?_
              refine gF rfl rfl (decide_eq_true hb393) rfl ?_
              refine gF rfl rfl (decide_eq_true hb393) rfl ?_
              refine gF rfl rfl (decide_eq_true hb393) rfl ?_
              refine pT rfl rfl (decide_eq_true hb393) rfl ?_
              refine mv rfl rfl ?_
              refine gF rfl rfl rfl rfl ?_
              refine gF rfl rfl rfl rfl ?_
              refine gF rfl rfl rfl rfl ?_
              refine gF rfl rfl rfl rfl ?_
              refine gF rfl rfl rfl rfl ?_
              refine gF rfl rfl rfl rfl ?_
              refine gF rfl rfl rfl rfl ?_
              refine gF rfl rfl rfl rfl ?_
              refine pT rfl rfl rfl rfl ?_
              refine on ?_
              obtain rfl := Option.some.inj hr394
              intro a w hS hA
              exact ⟨hS, hA.cut ⟨rfl, rfl, rfl, rfl, rfl, rfl, trivial⟩⟩
             ·have hr395 := if_n hb393 hr392
              refine gN rfl rfl (decide_eq_false hb393) ?_
              refine fb 1 Tryz.underlying73 rfl rfl rfl rfl Tryz.sizeOf3 ?_
              refine gN rfl rfl (decide_eq_false hb393) ?_
              refine ld Tryz.isAgg3 rfl rfl (((sS 0 rfl hK345).drop 1).take 1) rfl ?_
              refine gN rfl rfl (decide_eq_false hb393) ?_
              refine fb 1 Tryz.underlying68 rfl rfl rfl rfl Tryz.sizeOf3 ?_
              refine gN rfl rfl (decide_eq_false hb393) ?_
              refine ld Tryz.isAgg3 rfl rfl (((sS 2 rfl hK18).drop 1).take 1) rfl ?_
              refine gN rfl rfl (decide_eq_false hb393) ?_
              refine ltI rfl rfl rfl ?_
              refine pF rfl rfl (decide_eq_false hb393) rfl ?_
              refine mv rfl rfl ?_
              by_cases hb396 : x331.minute < r_2.out
              ·have hr397 := if_p hb396 hr395
               refine gF rfl rfl (decide_eq_true hb396) rfl ?_
               refine gF rfl rfl (decide_eq_true hb396) rfl ?_
               refine gF rfl rfl (decide_eq_true hb396) rfl ?_
               refine gF rfl rfl (decide_eq_true hb396) rfl ?_
               refine gF rfl rfl (decide_eq_true hb396) rfl ?_
               refine gF rfl rfl (decide_eq_true hb396) rfl ?_
               refine gF rfl rfl (decide_eq_true hb396) rfl ?_
               refine gF rfl rfl (decide_eq_true hb396) rfl ?_
               refine pT rfl rfl (decide_eq_true hb396) rfl ?_
               refine on ?_
               obtain rfl := Option.some.inj hr397
               intro a w hS hA
               exact ⟨hS, hA.cut ⟨rfl, rfl, rfl, rfl, rfl, rfl, trivial⟩⟩
              ·have hr398 := if_n hb396 hr395
               refine gN rfl rfl (decide_eq_false hb396) ?_
               refine fb 1 Tryz.underlying73 rfl rfl rfl rfl Tryz.sizeOf3 ?_
               refine gN rfl rfl (decide_eq_false hb396) ?_
               refine ld Tryz.isAgg3 rfl rfl (((sS 0 rfl hK345).drop 1).take 1) rfl ?_
               refine gN rfl rfl (decide_eq_false hb396) ?_
               refine fb 1 Tryz.underlying68 rfl rfl rfl rfl Tryz.sizeOf3 ?_
               refine gN rfl rfl (decide_eq_false hb396) ?_
               refine ld Tryz.isAgg3 rfl rfl (((sS 2 rfl hK18).drop 1).take 1) rfl ?_
               refine gN rfl rfl (decide_eq_false hb396) ?_
               obtain ⟨hk399, hr400⟩ := chk_some hr398
               refine sbI rfl rfl rfl hk399 ?_
               refine gN rfl rfl (decide_eq_false hb396) ?_
               refine fb 2 Tryz.underlying68 rfl rfl rfl rfl Tryz.sizeOf3 ?_
               refine gN rfl rfl (decide_eq_false hb396) ?_
               refine ld Tryz.isAgg3 rfl rfl ((sS 2 rfl hK18).drop 2) rfl ?_
               refine gN rfl rfl (decide_eq_false hb396) ?_
               refine gtI rfl rfl rfl ?_
               refine pF rfl rfl (decide_eq_false hb396) rfl ?_
               refine on ?_
               obtain rfl := Option.some.inj hr400
               intro a w hS hA
               exact ⟨hS, hA.cut ⟨rfl, rfl, rfl, rfl, rfl, rfl, trivial⟩⟩
         ·rintro a w ⟨hS, hA⟩
          refine TG.ap ?_ hS hA
          refine cb rfl (fun hc404 => ?_) (fun hc404 => ?_)
          ·have hr405 := if_p hc404 hr381
           refine sq ?_
           refine rg ?_
           refine av rfl rfl ?_
           refine on ?_
           refine rt_ ?_
           obtain rfl := Option.some.inj hr405
           obtain rfl := Option.some.inj hr329
           obtain rfl := Fin.out hz222
           obtain rfl := Option.some.inj hr218
           intro a w hS hA
           refine ret1 hA rfl rfl ?_
           exact ⟨rfl, hS.ext⟩
          ·have hr406 := if_f hc404 hr381
           refine sk ?_
           refine sq ?_
           refine rg ?_
           refine av rfl rfl ?_
           refine on ?_
           refine sq ?_
           refine sq ?_
           refine rg ?_
           refine fb 2 Tryz.underlying73 rfl rfl rfl rfl Tryz.sizeOf3 ?_
           refine ld Tryz.isAgg3 rfl rfl (((sS 0 rfl hK345).drop 2).take 1) rfl ?_
           obtain ⟨hk407, hr408⟩ := chk_some hr406
           refine sbI rfl rfl rfl hk407 ?_
           refine av rfl rfl ?_
           refine on ?_
           obtain ⟨e452, hl453, hr454⟩ := bd_some hr408
           refine jn (fun a w => ∃ t455, e452 = .inl t455 ∧ St [] W H [K344, K83, K17, K14, H] [] w ∧ Has [] 150 a [(3, .slice (some p334) requests.length cap_requests), (6, .pointer (some q16)), (9, .slice (some p349) r70.1.length cap79), (11, .int .i64 (s220 : Int)), (13, .bool t455)]) ?_ ?_
           ·refine bk ?_
            refine lp hl453 (fun s456 a w => St [] W H [K344, K83, K17, K14, H] [] w ∧ Has [] 150 a [(3, .slice (some p334) requests.length cap_requests), (6, .pointer (some q16)), (9, .slice (some p349) r70.1.length cap79), (11, .int .i64 (s220 : Int)), (12, .pointer (some q343)), (13, .bool s456.1), (14, .int .i64 s456.2)]) ?_ ?_
            ·intro a w hS hA
             exact ⟨hS, hA.cut ⟨rfl, rfl, rfl, rfl, rfl, rfl, rfl, trivial⟩⟩
            ·rintro j s456 y459 hr457 hz458 a w ⟨hS, hA⟩
             refine TG.ap ?_ hS hA
             unfold m5_2 at hr457
             refine sq ?_
             refine sq ?_
             refine rg ?_
             refine mv rfl rfl ?_
             refine fb 2 Tryz.underlying73 rfl rfl rfl rfl Tryz.sizeOf3 ?_
             refine ld Tryz.isAgg3 rfl rfl (((sS 0 rfl hK345).drop 2).take 1) rfl ?_
             refine fb 3 Tryz.underlying73 rfl rfl rfl rfl Tryz.sizeOf3 ?_
             refine ld Tryz.isAgg3 rfl rfl (((sS 0 rfl hK345).drop 3).take 1) rfl ?_
             obtain ⟨hk460, hr461⟩ := chk_some hr457
             refine adI rfl rfl rfl hk460 ?_
             refine leI rfl rfl rfl ?_
             refine on ?_
             refine ci rfl (fun hc465 => ?_) (fun hc465 => ?_)
             ·have hr466 := if_p hc465 hr461
              refine sk ?_
              refine sq ?_
              refine bk ?_
              refine sq ?_
              obtain ⟨t520, hx521, hr522⟩ := bd_some hr466
              refine jn (fun a w => St [] W H [K344, K83, K17, K14, H] [] w ∧ Has [] 150 a [(3, .slice (some p334) requests.length cap_requests), (6, .pointer (some q16)), (9, .slice (some p349) r70.1.length cap79), (11, .int .i64 (s220 : Int)), (12, .pointer (some q343)), (13, .bool s456.1), (14, .int .i64 s456.2), (15, .bool t520)]) ?_ ?_
              ·obtain ⟨r523, hx524, hr525⟩ := bd_some hx521
               rcases Bool.eq_false_or_eq_true (r523) with hb526 | hb526
               ·have hr527 := if_p hb526 hr525
                obtain ⟨hk528, hr529⟩ := chk_some hr527
                obtain ⟨x530, hx531, hr532⟩ := bd_some hr529
                obtain ⟨p533, rfl⟩ := hl12.adr hx531
                obtain ⟨cs534, hcs535, hq536, hr537⟩ := hl12.at hx531
                obtain rfl := hr537
                refine drG 15 T4.mixed (by kernel_rfl) rfl ?_
                refine DF.det rfl (fun a w K hS hA hF => TG.pa hS hA (mv rfl rfl fin1)) ?_
                refine DF.det rfl (fun a w K hS hA hF => TG.pa hS hA (fb 0 Tryz.underlying68 rfl rfl rfl rfl Tryz.sizeOf66 fin1)) ?_
                refine DF.det rfl (fun a w K hS hA hF => TG.pa hS hA (ld Tryz.isAgg66 rfl rfl ((sS 3 rfl hK18).take 1) rfl fin1)) ?_
                refine DF.det rfl (fun a w K hS hA hF => TG.pa hS hA (lnL Tryz.underlying66 rfl rfl fin1)) ?_
                refine DF.det rfl (fun a w K hS hA hF => TG.pa hS hA (sbI rfl rfl rfl (by omega) fin1)) ?_
                refine DF.det rfl (fun a w K hS hA hF => TG.pa hS hA (clS Tryz.call28 rfl rfl rfl rfl (fun w H hH le => w28 s456.2 0 ((r_2.words.length : Int) - 1) hx524) fin1)) ?_
                refine DF.det rfl (fun a w K hS hA hF => TG.pa hS hA (mv rfl rfl fin1)) ?_
                refine DF.det rfl (fun a w K hS hA hF => TG.pa hS hA (gN rfl rfl (hb526) (fb 0 Tryz.underlying68 rfl rfl rfl rfl Tryz.sizeOf66 fin1))) ?_
                refine DF.det rfl (fun a w K hS hA hF => TG.pa hS hA (gN rfl rfl (hb526) (ld Tryz.isAgg66 rfl rfl ((sS 3 rfl hK18).take 1) rfl fin1))) ?_
                refine DF.det rfl (fun a w K hS hA hF => TG.pa hS hA (gN rfl rfl (hb526) (mv rfl rfl fin1))) ?_
                refine DF.det rfl (fun a w K hS hA hF => TG.pa hS hA (gN rfl rfl (hb526) (iaP Tryz.underlying66 Tryz.sizeOf74 rfl rfl rfl (by omega) (lt_of hx531) fin1))) ?_
                refine DF.det rfl (fun a w K hS hA hF => TG.pa hS hA (gN rfl rfl (hb526) (fb 1 Tryz.underlying74 rfl rfl rfl rfl Tryz.sizeOf3 fin1))) ?_
                refine DF.det rfl (fun a w K hS hA hF => TG.pa hS hA (gN rfl rfl (hb526) (ld Tryz.isAgg3 rfl rfl ((sS 5 rfl hq536).drop 1) rfl fin1))) ?_
                refine DF.det rfl (fun a w K hS hA hF => TG.pa hS hA (gN rfl rfl (hb526) (fb 0 Tryz.underlying73 rfl rfl rfl rfl Tryz.sizeOf3 fin1))) ?_
                refine DF.det rfl (fun a w K hS hA hF => TG.pa hS hA (gN rfl rfl (hb526) (ld Tryz.isAgg3 rfl rfl ((sS 1 rfl hK345).take 1) rfl fin1))) ?_
                refine DF.nil fun K538 hF => ?_
                refine gN rfl rfl (hb526) ?_
                refine eqI rfl rfl rfl ?_
                refine pT rfl rfl (hb526) rfl ?_
                refine av rfl rfl ?_
                refine on ?_
                obtain rfl := Option.some.inj hr532
                intro a w hS hA
                exact ⟨hS.selH [1, 2, 3, 4, 5] rfl, hA.cut ⟨rfl, rfl, rfl, rfl, rfl, rfl, rfl, rfl, trivial⟩⟩
               ·have hr539 := if_f hb526 hr525
                refine drG 15 T4.mixed (by kernel_rfl) rfl ?_
                refine DF.det rfl (fun a w K hS hA hF => TG.pa hS hA (mv rfl rfl fin1)) ?_
                refine DF.det rfl (fun a w K hS hA hF => TG.pa hS hA (fb 0 Tryz.underlying68 rfl rfl rfl rfl Tryz.sizeOf66 fin1)) ?_
                refine DF.det rfl (fun a w K hS hA hF => TG.pa hS hA (ld Tryz.isAgg66 rfl rfl ((sS 3 rfl hK18).take 1) rfl fin1)) ?_
                refine DF.det rfl (fun a w K hS hA hF => TG.pa hS hA (lnL Tryz.underlying66 rfl rfl fin1)) ?_
                refine DF.det rfl (fun a w K hS hA hF => TG.pa hS hA (sbI rfl rfl rfl (by omega) fin1)) ?_
                refine DF.det rfl (fun a w K hS hA hF => TG.pa hS hA (clS Tryz.call28 rfl rfl rfl rfl (fun w H hH le => w28 s456.2 0 ((r_2.words.length : Int) - 1) hx524) fin1)) ?_
                refine DF.det rfl (fun a w K hS hA hF => TG.pa hS hA (mv rfl rfl fin1)) ?_
                refine DF.det rfl (fun a w K hS hA hF => TG.pa hS hA (gF rfl rfl (hb526) rfl fin1)) ?_
                refine DF.det rfl (fun a w K hS hA hF => TG.pa hS hA (gF rfl rfl (hb526) rfl fin1)) ?_
                refine DF.det rfl (fun a w K hS hA hF => TG.pa hS hA (gF rfl rfl (hb526) rfl fin1)) ?_
                refine DF.det rfl (fun a w K hS hA hF => TG.pa hS hA (gF rfl rfl (hb526) rfl fin1)) ?_
                refine DF.det rfl (fun a w K hS hA hF => TG.pa hS hA (gF rfl rfl (hb526) rfl fin1)) ?_
                refine DF.det rfl (fun a w K hS hA hF => TG.pa hS hA (gF rfl rfl (hb526) rfl fin1)) ?_
                refine DF.det rfl (fun a w K hS hA hF => TG.pa hS hA (gF rfl rfl (hb526) rfl fin1)) ?_
                refine DF.det rfl (fun a w K hS hA hF => TG.pa hS hA (gF rfl rfl (hb526) rfl fin1)) ?_
                refine DF.nil fun K540 hF => ?_
                refine gF rfl rfl (hb526) rfl ?_
                refine pF rfl rfl (hb526) rfl ?_
                refine av rfl rfl ?_
                refine on ?_
                obtain rfl := Option.some.inj hr539
                intro a w hS hA
                exact ⟨hS.selH [1, 2, 3, 4, 5] rfl, hA.cut ⟨rfl, rfl, rfl, rfl, rfl, rfl, rfl, rfl, trivial⟩⟩
              ·rintro a w ⟨hS, hA⟩
               refine TG.ap ?_ hS hA
               refine sq ?_
               refine sq ?_
               obtain ⟨t549, hx550, hr551⟩ := bd_some hr522
               refine jn (fun a w => St [] W H [K344, K83, K17, K14, H] [] w ∧ Has [] 150 a [(3, .slice (some p334) requests.length cap_requests), (6, .pointer (some q16)), (9, .slice (some p349) r70.1.length cap79), (11, .int .i64 (s220 : Int)), (12, .pointer (some q343)), (13, .bool s456.1), (14, .int .i64 s456.2), (15, .bool t520), (142, .bool t549)]) ?_ ?_
               ·refine rg ?_
                refine mv rfl rfl ?_
                refine fb 2 Tryz.underlying73 rfl rfl rfl rfl Tryz.sizeOf3 ?_
                refine ld Tryz.isAgg3 rfl rfl (((sS 0 rfl hK345).drop 2).take 1) rfl ?_
                refine fb 2 Tryz.underlying73 rfl rfl rfl rfl Tryz.sizeOf3 ?_
                refine ld Tryz.isAgg3 rfl rfl (((sS 0 rfl hK345).drop 2).take 1) rfl ?_
                refine fb 3 Tryz.underlying73 rfl rfl rfl rfl Tryz.sizeOf3 ?_
                refine ld Tryz.isAgg3 rfl rfl (((sS 0 rfl hK345).drop 3).take 1) rfl ?_
                refine adI rfl rfl rfl hk460 ?_
                obtain ⟨hk552, hr553⟩ := chk_some hx550
                refine sbI rfl rfl rfl hk552 ?_
                obtain ⟨r554, hx555, hr556⟩ := bd_some hr553
                refine clS Tryz.call28 rfl rfl rfl rfl (fun w H hH le => w28 s456.2 x331.from_ ((x331.from_ + x331.cut) - 1) hx555) ?_
                refine mv rfl rfl ?_
                rcases Bool.eq_false_or_eq_true (r554) with hb557 | hb557
                ·have hr558 := if_p hb557 hr556
                 refine gN rfl rfl (hb557) ?_
                 refine mv rfl rfl ?_
                 refine gN rfl rfl (hb557) ?_
                 refine nt rfl rfl ?_
                 refine pT rfl rfl (hb557) rfl ?_
                 refine on ?_
                 obtain rfl := Option.some.inj hr558
                 intro a w hS hA
                 exact ⟨hS, hA.cut ⟨rfl, rfl, rfl, rfl, rfl, rfl, rfl, rfl, rfl, trivial⟩⟩
                ·have hr559 := if_f hb557 hr556
                 refine gF rfl rfl (hb557) rfl ?_
                 refine gF rfl rfl (hb557) rfl ?_
                 refine pF rfl rfl (hb557) rfl ?_
                 refine on ?_
                 obtain rfl := Option.some.inj hr559
                 intro a w hS hA
                 exact ⟨hS, hA.cut ⟨rfl, rfl, rfl, rfl, rfl, rfl, rfl, rfl, rfl, trivial⟩⟩
               ·rintro a w ⟨hS, hA⟩
                refine TG.ap ?_ hS hA
                refine cb rfl (fun hc563 => ?_) (fun hc563 => ?_)
                ·have hr564 := if_p hc563 hr551
                 refine sq ?_
                 refine rg ?_
                 refine av rfl rfl ?_
                 refine on ?_
                 refine rt_ ?_
                 obtain rfl := Option.some.inj hr564
                 obtain rfl := Fin.out hz458
                 obtain rfl := Option.some.inj hr454
                 obtain rfl := Option.some.inj hr329
                 obtain rfl := Fin.out hz222
                 obtain rfl := Option.some.inj hr218
                 intro a w hS hA
                 refine ret1 hA rfl rfl ?_
                 exact ⟨rfl, hS.ext⟩
                ·have hr565 := if_f hc563 hr551
                 refine sk ?_
                 obtain ⟨t569, hx570, hr571⟩ := bd_some hr565
                 refine jn (fun a w => St [] W H [K344, K83, K17, K14, H] [] w ∧ Has [] 150 a [(3, .slice (some p334) requests.length cap_requests), (6, .pointer (some q16)), (9, .slice (some p349) r70.1.length cap79), (11, .int .i64 (s220 : Int)), (12, .pointer (some q343)), (13, .bool t569), (14, .int .i64 s456.2)]) ?_ ?_
                 ·refine rg ?_
                  refine mv rfl rfl ?_
                  refine mv rfl rfl ?_
                  rcases Bool.eq_false_or_eq_true (s456.1) with hb572 | hb572
                  ·have hr573 := if_p hb572 hx570
                   refine gF rfl rfl (hb572) rfl ?_
                   refine pT rfl rfl (hb572) rfl ?_
                   refine av rfl rfl ?_
                   refine on ?_
                   obtain rfl := Option.some.inj hr573
                   intro a w hS hA
                   exact ⟨hS, hA.cut ⟨rfl, rfl, rfl, rfl, rfl, rfl, rfl, trivial⟩⟩
                  ·have hr574 := if_f hb572 hx570
                   refine gN rfl rfl (hb572) ?_
                   refine mv rfl rfl ?_
                   refine pF rfl rfl (hb572) rfl ?_
                   refine av rfl rfl ?_
                   refine on ?_
                   obtain rfl := Option.some.inj hr574
                   intro a w hS hA
                   exact ⟨hS, hA.cut ⟨rfl, rfl, rfl, rfl, rfl, rfl, rfl, trivial⟩⟩
                 ·rintro a w ⟨hS, hA⟩
                  refine TG.ap ?_ hS hA
                  refine rg ?_
                  refine mv rfl rfl ?_
                  obtain ⟨hk575, hr576⟩ := chk_some hr571
                  refine adI rfl rfl rfl hk575 ?_
                  refine av rfl rfl ?_
                  refine on ?_
                  obtain rfl := Option.some.inj hr576
                  intro a w hS hA
                  exact ⟨_, hz458, hS, hA.cut ⟨rfl, rfl, rfl, rfl, rfl, rfl, rfl, trivial⟩⟩
             ·have hr577 := if_n hc465 hr461
              refine xt rfl ?_
              obtain rfl := Option.some.inj hr577
              obtain rfl := Fin.out hz458
              intro a w hS hA
              exact ⟨_, rfl, hS, hA.cut ⟨rfl, rfl, rfl, rfl, rfl, trivial⟩⟩
           ·rintro a w ⟨t455, rfl, hS, hA⟩
            refine TG.ap ?_ hS hA
            refine sq ?_
            refine rg ?_
            refine mv rfl rfl ?_
            refine nt rfl rfl ?_
            refine on ?_
            refine cb rfl (fun hc581 => ?_) (fun hc581 => ?_)
            ·replace hc581 := nbt hc581
             have hr582 := if_f hc581 hr454
             refine sq ?_
             refine rg ?_
             refine av rfl rfl ?_
             refine on ?_
             refine rt_ ?_
             obtain rfl := Option.some.inj hr582
             obtain rfl := Option.some.inj hr329
             obtain rfl := Fin.out hz222
             obtain rfl := Option.some.inj hr218
             intro a w hS hA
             refine ret1 hA rfl rfl ?_
             exact ⟨rfl, hS.ext⟩
            ·replace hc581 := nbf hc581
             have hr583 := if_p hc581 hr454
             refine sk ?_
             obtain rfl := Option.some.inj hr583
             intro a w hS hA
             exact ⟨_, rfl, hS.selH [1, 2, 3, 4] rfl, hA.cut ⟨rfl, rfl, rfl, rfl, trivial⟩⟩
       ·rintro a w ⟨t330, rfl, hS, hA⟩
        refine TG.ap ?_ hS hA
        refine rg ?_
        refine mv rfl rfl ?_
        refine adI rfl rfl rfl (by omega) ?_
        refine av rfl rfl ?_
        refine on ?_
        obtain rfl := Option.some.inj hr329
        intro a w hS hA
        exact ⟨_, hz222, hS, hA.cut ⟨rfl, rfl, rfl, rfl, trivial⟩⟩
      ·have hr584 := if_n hc227 hr221
       refine xt rfl ?_
       obtain rfl := Option.some.inj hr584
       obtain rfl := Fin.out hz222
       intro a w hS hA
       exact ⟨_, rfl, hS, hA.cut trivial⟩
    ·rintro a w ⟨t219, rfl, hS, hA⟩
     refine TG.ap ?_ hS hA
     refine sq ?_
     refine rg ?_
     obtain ⟨r585, hx586, hr587⟩ := bd_some hr218
     refine clS Tryz.call17 rfl rfl rfl rfl (fun w H hH le => w17 hH (hg.mono (le.at 3 rfl))  hx586) ?_
     refine av rfl rfl ?_
     refine on ?_
     refine rt_ ?_
     obtain rfl := Option.some.inj hr587
     intro a w hS hA
     refine ret1 hA rfl rfl ?_
     exact ⟨rfl, hS.ext⟩

end T4
