/-
  The kit, third text: ranges over functions, errors, arguments; plain lemmas on models.
-/
import Derived.Test.YtelimceikglofaaGreatDoorKitTwo
import Derived.RangeFuncLeaves
import Derived.RangeFuncRecord
import Derived.RangeFuncOwn
import Derived.RangeFuncNested
import Derived.WideLaws
import Derived.Shelf.Strconv.AtoiAll
import Derived.Shelf.Strconv.Itoa3
import Derived.Carry
import Derived.ProofKit
import Derived.LaidMore
import Derived.OpenShut
import Derived.Stop.Joined
import Derived.Shelf.SlSortCmp.NoneTotal
set_option linter.all false
namespace Pk
open Go
section
variable {P : Program} {r : Option Nat} {n rt : Cont} {e : List (Nat × Cont)} {p : List PanicEntry → Cont} {x : Fr} {Hs : List Hp} {σ : Owns} {L : Env} {N : Cont}
def RtD (P : Program) (fn : Func) (R : Ending → World → Prop) (D : List Deferred) : Cont := fun a w => LeavesInM (FW none) 0 P fn a.tmps R D .returning w
def RtM (P : Program) (fn : Func) (R : Ending → World → Prop) : Cont := fun a w => LeavesInM (FW none) 0 P fn a.tmps R a.defers .returning w
abbrev mk1 (b : Nat) : Deferred := { target := .collected b, args := #[] }
theorem enterM {f : FuncId} {fn : Func} {c : Code} {nt : Nat} {w : World} {R : Ending → World → Prop} {l : List Value} (hf : P.funcs[f]? = some fn) (hb : fn.body = some c) (hn : fn.ntmps = nt) (hl : Nat.ble l.length nt = true)
  (h : ∀ a, Has [] nt a (envOf 0 l) → W P none c (RtM P fn R) (RtM P fn R) [] (fun _ _ _ => False) a w) : Calls P f l.toArray w R := by
 have hl' : l.length ≤ nt := by simpa using hl
 have h1 := h { tmps := l.toArray ++ Array.replicate (fn.ntmps - l.toArray.size) undef, defers := [] } ⟨rfl, by simp [hn]; omega, fun i v hi => by
  obtain ⟨_, h2⟩ := lk_envOf l 0 i v hi
  simp only [Nat.sub_zero] at h2
  have hlt : i < l.length := (List.getElem?_eq_some_iff.1 h2).1
  rw [Array.getElem?_append_left (by simpa using hlt)]
  simpa using h2⟩
 refine (callsIn_wide (n := 0)).1 (callsIn_of_wp_marks hf hb trivial ?_)
 refine wpIn_mono h1 ?_
 intro z a w hz
 cases z with
 | normal => exact hz
 | ret => exact hz
 | panic ch => exact hz.elim
 | exit id => obtain ⟨K, hK, _⟩ := hz; simp [lkE] at hK
 | goto l => exact hz
 | outgrown => exact hz.elim
theorem enterGM {M : Prop} {f : FuncId} {fn : Func} {c : Code} {nt : Nat} {w : World} {R : Ending → World → Prop} {l : List Value} (hf : P.funcs[f]? = some fn) (hb : fn.body = some c) (hn : fn.ntmps = nt) (hl : Nat.ble l.length nt = true) {H : Hp} (hH : H.le (hp w))
  (h : TG ⟨[], nt, M, w, H⟩ [H] [] (envOf 0 l) (W P none c (RtM P fn R) (RtM P fn R) [] (fun _ _ _ => False))) : Calls P f l.toArray w R :=
 enterM hf hb hn hl fun a hA => h a w (St.start M w hH) hA
variable {fn : Func} {R : Ending → World → Prop} {D : List Deferred} {k : Nat} {M : Prop} {w0 : World} {H0 : Hp}
theorem rtM (h : TG ⟨D, k, M, w0, H0⟩ Hs σ L (RtD P fn R D)) : TG ⟨D, k, M, w0, H0⟩ Hs σ L (RtM P fn R) := fun a w hS hA => by
 have := h a w hS hA
 unfold RtM; rw [hA.defers]; exact this
theorem St.put {t b : Nat} {o o' : Obj} {w : World} (hS : St M w0 H0 Hs σ w) (hσ : getO σ t = some (.blk b o)) : St M w0 H0 Hs (setO σ t (.blk b o')) (w.putObj b o') := by
 have hb : w.heap[b]? = some o := hS.get hσ
 exact hS.step hσ (y := .blk b o') ⟨grownBy_putObj' w b o', Nat.le_refl _⟩ (World.putObj_heap_same (Array.getElem?_eq_some_iff.1 hb).1) (fun _ h => .inl h)
theorem rtT (t : Nat) {b : Nat} (hσ : getO σ t = some (.blk b (.deferred (some [])))) (h : TG x Hs (setO σ t (.blk b (.deferred none))) L (RtD P fn R D)) : TG x Hs σ L (RtD P fn R (mk1 b :: D)) := fun a w hS hA => by
 have hb : w.heap[b]? = some (.deferred (some [])) := hS.get hσ
 exact ⟨by simp, .inl ⟨b, _, rfl, run_takeDeferred hb, h a _ (St.put hS hσ) hA⟩⟩
theorem rt0 {D' : List Deferred} (h : TG ⟨[], k, M, w0, H0⟩ Hs σ L (Rt P fn R)) : TG ⟨D', k, M, w0, H0⟩ Hs σ L (RtD P fn R []) := fun a w hS hA => by
 obtain ⟨_, v, h1, h2⟩ := h { a with defers := [] } w hS ⟨rfl, hA.size, hA.get⟩
 exact ⟨v, h1, h2⟩
abbrev LR (fn : FuncId) (tm : Array Value) (ps : Array Tmp) (asg body : Code) (dB : Nat) (st : LoopState) (pe : Option Code) : Obj := .loop { state := st, pending := pe, fn := fn, tmps := tm, params := ps, assign := asg, body := body, defers := dB }
def Rec (O : LoopState → Option Code → Obj) (tm : Array Value) (ps : List Tmp) (asg body : Code) : Prop := ∃ fn dB, ∀ s q, O s q = LR fn tm ps.toArray asg body dB s q
def EL (P : Program) (r : Option Nat) (l : Nat) (n rt : Cont) (e : List (Nat × Cont)) (p : List PanicEntry → Cont) : Cont := fun a w => ∃ jump w', (Instr.endLoop l).run P w = .ok jump w' ∧ (match jump with | none => n a w' | some c => W P r c n rt e p a w')
theorem callsFW {f : FuncId} {args : Array Value} {w : World} (h : Calls P f args w R) : CallsIn (FW r) (0 - 1) P f args w R := (callsIn_wide (n := 0)).2 h
theorem rfO {g : Operand} {ps : List Tmp} {asg body : Code} {f : FuncId} {fnc : Func} {cd : Code} {nt : Nat} {cap : List Value} (tl tD : Nat)
  (hcall : ∀ args w, (callFunc f args).run P w = .ok (.enter f args) w) (hfn : P.funcs[f]? = some fnc) (hb : fnc.body = some cd) (hn : fnc.ntmps = nt)
  (hg : ev L g = some (.func (.func f) #[] cap.toArray)) (hl : Nat.ble (cap.length + 1) nt = true) (J : Nat → Nat → (LoopState → Option Code → Obj) → World → Prop)
  (h1 : ∀ l dB O tm, Has [] x.k ⟨tm, []⟩ L → Rec O tm ps asg body → TG ⟨[], nt, x.M, x.w0, x.H0⟩ Hs ((tl, .blk l (O .ready none)) :: (tD, .blk dB (.deferred (some []))) :: σ) (envOf 0 (.func (.yield l) #[] #[] :: cap))
   (W P none cd (Rt P fnc fun e w => ∃ v, e = .returned v ∧ J l dB O w) (Rt P fnc fun e w => ∃ v, e = .returned v ∧ J l dB O w) [] (fun _ _ _ => False)))
  (h2 : ∀ l dB O tm a w, Rec O tm ps asg body → Has (mk1 dB :: x.D) x.k a L → J l dB O w → EL P none l n rt e p a w) : TG x Hs σ L (W P none (.rangeFunc g ps.toArray asg body) n rt e p) := fun a w hS hA => by
 refine wpIn_rangeFunc fun fn _ => ?_
 obtain ⟨O, hO⟩ : ∃ O : LoopState → Option Code → Obj, ∀ s q, O s q = LR fn a.tmps ps.toArray asg body w.heap.size s q := ⟨_, fun _ _ => rfl⟩
 have hR : Rec O a.tmps ps asg body := ⟨fn, _, hO⟩
 obtain ⟨W1, hW1⟩ : ∃ W1, (w.alloc (.deferred (some []))).alloc (O .ready none) = W1 := ⟨_, rfl⟩
 refine ⟨w.heap.size + 1, [mk1 w.heap.size], W1, ⟨.fn (.func f) cap.toArray, #[.func (.yield (w.heap.size + 1)) #[] #[]]⟩, W1, f, (.func (.yield (w.heap.size + 1)) #[] #[] :: cap).toArray, W1, by rw [← hW1, hO]; exact run_enterLoop_outer fn a.tmps ps.toArray asg body, ?_, ?_, ?_, ?_, ?_⟩
 ·simp only [resolve, hA.eval hg]; simp [go_sem, Deferred.ofValue]
 ·intro _ _; trivial
 ·simp [invoke, hcall]
 ·intro h; simp [FW] at h
 ·have hS1 := hS.add (Ext.alloc _ w (.deferred (some []))) tD (x := .blk w.heap.size (.deferred (some []))) (alloc_new w _) (fun b hb => by simp [Own.foot] at hb; omega)
  have hS2 := hS1.add (Ext.alloc _ _ (O .ready none)) tl (x := .blk (w.heap.size + 1) (O .ready none)) (by have := alloc_new (w.alloc (.deferred (some []))) (O .ready none); simpa [Own.holds] using this) (fun b hb => by simp [Own.foot] at hb; simp; omega)
  have hT : Has [] x.k ⟨a.tmps, []⟩ L := ⟨rfl, hA.size, hA.get⟩
  rw [hW1] at hS2
  have hc : Calls P f (.func (.yield (w.heap.size + 1)) #[] #[] :: cap).toArray W1 (fun e' w' => ∃ v, e' = .returned v ∧ J (w.heap.size + 1) w.heap.size O w') :=
   enter hfn hb hn (by simpa using hl) fun a' hA' => W_mono (fun _ _ h => h) (fun _ _ h => h) (fun _ K _ _ hK h => ⟨K, hK, h⟩) (fun _ _ _ h => h.elim) (h1 _ _ O a.tmps hT hR a' _ hS2 hA')
  refine (callsFW hc).mono ?_
  rintro e' w' ⟨v, rfl, hJ⟩
  have hA2 : Has (mk1 w.heap.size :: x.D) x.k { a with defers := [mk1 w.heap.size] ++ a.defers } L := ⟨by simp [hA.defers], hA.size, hA.get⟩
  exact h2 _ _ O a.tmps _ w' hR hA2 hJ
theorem delO_setO : ∀ (σ : Owns) (t : Nat) (y : Own), delO (setO σ t y) t = delO σ t
 | [], _, _ => rfl
 | (i, z) :: σ, t, y => by
  by_cases e : i = t
  ·subst e; simp [setO, delO]
  ·simp only [setO, delO, beq_ne e, cond_false, delO_setO σ t y]
theorem elN (t : Nat) {l : Nat} {O : LoopState → Option Code → Obj} {tm : Array Value} {ps : List Tmp} {asg body : Code} (hO : Rec O tm ps asg body) (hσ : getO σ t = some (.blk l (O .ready none))) (h : TG x Hs (delO σ t) L n) : TG x Hs σ L (EL P r l n rt e p) := fun a w hS hA => by
 have hb : w.heap[l]? = some (O .ready none) := hS.get hσ
 obtain ⟨fn, dB, hO⟩ := hO
 rw [hO] at hb
 exact ⟨_, _, run_endLoop hb (by simp), h a _ (by have := (St.put (o' := LR fn tm ps.toArray asg body dB .exhausted none) hS hσ).del t; rwa [delO_setO] at this) hA⟩
theorem elC (t : Nat) {l : Nat} {O : LoopState → Option Code → Obj} {tm : Array Value} {ps : List Tmp} {asg body : Code} {c : Code} (hO : Rec O tm ps asg body) (hσ : getO σ t = some (.blk l (O .done (some c)))) (h : TG x Hs (delO σ t) L (W P r c n rt e p)) : TG x Hs σ L (EL P r l n rt e p) := fun a w hS hA => by
 have hb : w.heap[l]? = some (O .done (some c)) := hS.get hσ
 obtain ⟨fn, dB, hO⟩ := hO
 rw [hO] at hb
 exact ⟨_, _, run_endLoop hb (by simp), h a _ (by have := (St.put (o' := LR fn tm ps.toArray asg body dB .exhausted (some c)) hS hσ).del t; rwa [delO_setO] at this) hA⟩
def BR (P : Program) (l : Nat) (N : Cont) : Cont := fun a w => ∃ w', (Instr.beginRound l).run P w = .ok () w' ∧ N a w'
def RE (P : Program) (l : Nat) (J : Value → World → Prop) (jump : Option Code) : Cont := fun _ w => ∃ v w', (Instr.endRound l jump).run P w = .ok v w' ∧ J v w'
theorem bR (t : Nat) {l : Nat} {O : LoopState → Option Code → Obj} {tm : Array Value} {ps : List Tmp} {asg body : Code} (hO : Rec O tm ps asg body) (hσ : getO σ t = some (.blk l (O .ready none))) (h : TG x Hs (setO σ t (.blk l (O .busy none))) L N) : TG x Hs σ L (BR P l N) := fun a w hS hA => by
 have hb : w.heap[l]? = some (O .ready none) := hS.get hσ
 obtain ⟨fn, dB, hO⟩ := hO
 rw [hO] at hb
 exact ⟨_, run_beginRound hb rfl, h a _ (by have := St.put (o' := O .busy none) hS hσ; rw [hO] at this ⊢; exact this) hA⟩
theorem eR (t : Nat) {l : Nat} {O : LoopState → Option Code → Obj} {tm : Array Value} {ps : List Tmp} {asg body : Code} {J : Value → World → Prop} (jump : Option Code) (hO : Rec O tm ps asg body) (hσ : getO σ t = some (.blk l (O .busy none)))
  (h : ∀ w, St x.M x.w0 x.H0 Hs (setO σ t (.blk l (O (if jump.isNone then .ready else .done) jump))) w → J (.bool jump.isNone) w) : TG x Hs σ L (RE P l J jump) := fun a w hS hA => by
 have hb : w.heap[l]? = some (O .busy none) := hS.get hσ
 obtain ⟨fn, dB, hO⟩ := hO
 rw [hO] at hb
 exact ⟨_, _, run_endRound jump hb, h _ (by have := St.put (o' := O (if jump.isNone then .ready else .done) jump) hS hσ; rw [hO] at this ⊢; exact this)⟩
theorem has_params {ps : List Tmp} {vs : List Value} {k : Nat} : ∀ {tm : Array Value} {L : Env}, Has [] k ⟨tm, []⟩ L → (ps.all fun t => Nat.blt t k) = true → Has [] k ⟨(ps.zip vs).foldl (fun t (q, v) => t.setIfInBounds q v) tm, []⟩ ((ps.zip vs).reverse ++ L) := by
 intro tm L hT hp
 induction ps generalizing vs tm L with
 | nil => exact hT
 | cons q ps ih =>
  cases vs with
  | nil => exact hT
  | cons v vs =>
   simp only [List.all_cons, Bool.and_eq_true] at hp
   have h1 : Has [] k ⟨tm.setIfInBounds q v, []⟩ ((q, v) :: L) := by have := hT.put (d := q) hp.1 v; simpa [Act.put] using this
   have := ih (vs := vs) h1 hp.2
   simpa using this
theorem lkE_ids {F : Nat → Cont} {id : Nat} {K : Cont} : ∀ (ids : List Nat), lkE (ids.map fun i => (i, F i)) id = some K → K = F id
 | [], h => by simp [lkE] at h
 | i :: ids, h => by
  simp only [List.map_cons, lkE] at h
  by_cases e : i = id
  ·subst e; simp at h; exact h.symm
  ·rw [beq_ne e] at h; exact lkE_ids ids h
theorem O_round {ops : Array Oper} {rest : List Oper} {o : Oper} {l : Nat} {f : FuncId} {tm : Array Value} {asg body : Code} {J : Value → World → Prop} {a : Act} {w : World} (ids : List Nat) (hg : o.guard = none) (hd : ∀ c, o.op ≠ .defer c) (hr : (execOp a.eval o).run P w = .ok (.round l f tm asg body) w)
  (h : W P (some l) asg (BR P l (W P (some l) body (RE P l J none) (RE P l J (some .ret)) (ids.map fun i => (i, RE P l J (some (.exit i)))) (fun _ _ _ => False))) (fun _ _ => False) [] (fun _ _ _ => False) ⟨tm, []⟩ w)
  (h2 : ∀ v w', J v w' → O P r ops n p rest (a.put o.dst v) w') : O P r ops n p (o :: rest) a w := by
 simp only [O, Region.wanted, hg, if_true]
 refine ⟨fun _ _ => trivial, ?_⟩
 rw [Oper.semAt_eq _ _ _ hd, hr]
 refine ⟨fun h => by simp [FW] at h, ?_⟩
 have hRI : RoundIn (FW r) (0 - 1) P l f tm asg body w (fun e w' => ∃ v, e = .returned v ∧ J v w') := by
  refine roundIn_of_wpIn trivial (wpIn_mono h ?_)
  intro z a1 w1 hz
  cases z with
  | normal =>
   obtain ⟨w2, hb, hB⟩ := hz
   refine ⟨w2, hb, wpIn_mono hB ?_⟩
   intro z a w hz
   cases z with
   | normal => obtain ⟨v, w', h1, h2⟩ := hz; exact ⟨v, w', h1, v, rfl, h2⟩
   | ret => obtain ⟨v, w', h1, h2⟩ := hz; exact ⟨v, w', h1, v, rfl, h2⟩
   | exit id =>
    obtain ⟨K, hK, hz⟩ := hz
    have : K = RE P l J (some (.exit id)) := by
     exact lkE_ids (F := fun i => RE P l J (some (.exit i))) ids hK
    subst this
    obtain ⟨v, w', h1, h2⟩ := hz; exact ⟨v, w', h1, v, rfl, h2⟩
   | panic c => exact hz.elim
   | goto l => exact hz.elim
   | outgrown => exact hz.elim
  | ret => exact hz.elim
  | exit id => obtain ⟨K, hK, _⟩ := hz; simp [lkE] at hK
  | panic c => exact hz.elim
  | goto l => exact hz.elim
  | outgrown => exact hz.elim
 refine hRI.mono ?_
 rintro e' w' ⟨v, rfl, hJ⟩
 exact h2 v w' hJ
theorem run_callY {x : Operand} {xs : List Operand} {ats : Array TypeId} {l : Nat} {vs : List Value} {dst : Option Nat} {gd : Option (Nat × Bool)} {ty : TypeId} {pos : String} {af : Array Edge} {a : Act} {w : World} {D : List Deferred} {k : Nat} {rec : Loop} (hA : Has D k a L) (hf : ev L x = some (.func (.yield l) #[] #[])) (hxs : evs L xs = some vs)
  (h : w.heap[l]? = some (.loop rec)) (hs : vs.length = rec.params.size) :
  (execOp a.eval ⟨dst, .call ⟨.value x, xs.toArray, ats⟩, ty, pos, af, gd⟩).run P w = .ok (.round l rec.fn ((rec.params.zip vs.toArray).foldl (fun tmps (t, a) => tmps.setIfInBounds t a) rec.tmps) rec.assign rec.body) w := by
 have := evs_map hA hxs
 have hy := run_yield (P := P) (args := vs.toArray) h (by simpa using hs)
 simp [execOp, resolve, hA.eval hf, Deferred.ofValue, invoke, this, hy]
theorem yl {y : Operand} {xs : List Operand} {ats : Array TypeId} {vs : List Value} {dst : Option Nat} {ty : TypeId} {pos : String} {af : Array Edge} {ops : Array Oper} {rest : List Oper} (t : Nat) {l : Nat} {Oj : LoopState → Option Code → Obj} {tm : Array Value} {ps : List Tmp} {asg body : Code} {k' : Nat} {L' L1 : Env} (ids : List Nat)
  (hy : ev L y = some (.func (.yield l) #[] #[])) (hxs : evs L xs = some vs) (hσ : getO σ t = some (.blk l (Oj .ready none))) (hT : Has [] k' ⟨tm, []⟩ L') (hO : Rec Oj tm ps asg body) (hlen : vs.length = ps.length) (hps : (ps.all fun t => Nat.blt t k') = true) (hL : (ps.zip vs).reverse ++ L' = L1) (J : Value → World → Prop)
  (h1 : TG ⟨[], k', x.M, x.w0, x.H0⟩ Hs σ L1 (W P (some l) asg (BR P l (W P (some l) body (RE P l J none) (RE P l J (some .ret)) (ids.map fun i => (i, RE P l J (some (.exit i)))) (fun _ _ _ => False))) (fun _ _ => False) [] (fun _ _ _ => False)))
  (h2 : ∀ a w v, Has x.D x.k a L → J v w → O P r ops n p rest (a.put dst v) w) : OG P r ops n p x Hs σ L (⟨dst, .call ⟨.value y, xs.toArray, ats⟩, ty, pos, af, none⟩ :: rest) := fun a w hS hA => by
 subst hL
 have hb : w.heap[l]? = some (Oj .ready none) := hS.get hσ
 obtain ⟨fn, dB, hO⟩ := hO
 rw [hO] at hb
 refine O_round (J := J) ids rfl (fun _ h => by cases h) (run_callY hA hy hxs hb (by simpa using hlen)) ?_ (fun v w' hJ => h2 a w' v hA hJ)
 have := h1 _ w hS (has_params (vs := vs) hT hps)
 simpa using this
theorem clT {y : Operand} {xs : List Operand} {ats : Array TypeId} {f : FuncId} {fnc : Func} {cd : Code} {nt : Nat} {first cap : List Value} {vs args : List Value} {dst : Option Nat} {ty : TypeId} {pos : String} {af : Array Edge} {ops : Array Oper} {rest : List Oper} (hcall : ∀ args w, (callFunc f args).run P w = .ok (.enter f args) w) (hfn : P.funcs[f]? = some fnc) (hb : fnc.body = some cd) (hn : fnc.ntmps = nt) (hf : ev L y = some (.func (.func f) first.toArray cap.toArray)) (hxs : evs L xs = some vs) (hargs : first ++ vs ++ cap = args) (hl : Nat.ble args.length nt = true)
  (h1 : TG ⟨[], nt, x.M, x.w0, x.H0⟩ Hs σ (envOf 0 args) (W P none cd (Rt P fnc fun e w => ∃ v, e = .returned v ∧ ∀ a, Has x.D x.k a L → O P r ops n p rest (a.put dst v) w) (Rt P fnc fun e w => ∃ v, e = .returned v ∧ ∀ a, Has x.D x.k a L → O P r ops n p rest (a.put dst v) w) [] (fun _ _ _ => False))) :
  OG P r ops n p x Hs σ L (⟨dst, .call ⟨.value y, xs.toArray, ats⟩, ty, pos, af, none⟩ :: rest) :=
 clI hcall hfn hb hn hf hxs hargs hl (fun v w => ∀ a, Has x.D x.k a L → O P r ops n p rest (a.put dst v) w) h1 fun a w v hA hJ => hJ a hA
end
end Pk
namespace Pk
open Go Go.RowKit
def Ifc (v : Value) : Prop := v = .nilIface ∨ ∃ te pe, v = .iface te pe
def Er (v : Value) (b : Bool) : Prop := (b = false ∧ v = .nilIface) ∨ (b = true ∧ ∃ t u, v = .iface t u)
structure Gl (M : Prop) (gS gR gT : Nat) (H : Hp) : Prop where
 nq : ¬ M
 syn : ∃ ev, CellsAt H ⟨gS, 0, none⟩ [ev] ∧ Ifc ev
 rng : ∃ ev, CellsAt H ⟨gR, 0, none⟩ [ev] ∧ Ifc ev
 tab : ∃ t z, H gT = some (.cells (Lib.pow10Tab.map fun i => Value.int .u64 i).toArray t z)
theorem Gl.mono {M : Prop} {gS gR gT : Nat} {H K : Hp} (h : Gl M gS gR gT H) (hk : H.le K) : Gl M gS gR gT K := by
 obtain ⟨hn, ⟨a, h1, h2⟩, ⟨b, h3, h4⟩, ⟨t, z, h5⟩⟩ := h
 exact ⟨hn, ⟨a, h1.mono hk, h2⟩, ⟨b, h3.mono hk, h4⟩, ⟨t, z, hk _ _ h5⟩⟩
theorem cell_of {w : World} {H : Hp} {g : Nat} {v : Value} (hH : H.le (hp w)) (h : CellsAt H ⟨g, 0, none⟩ [v]) : w.cell? ⟨g, 0, none⟩ = some v := by
 obtain ⟨_, h⟩ := h
 obtain ⟨cs, t, z, h1, h2⟩ := h 0 v rfl
 have := hH _ _ h1
 simp [World.cell?, show w.heap[g]? = _ from this]
 simpa using h2
theorem tabIs_of {P : Program} {w : World} {H : Hp} {g : Nat} {nm : String} (hn : P.globalNamed nm = some g) (hH : H.le (hp w)) (h : ∃ t z, H g = some (.cells (Lib.pow10Tab.map fun i => Value.int .u64 i).toArray t z)) : Lib.TabIs P w nm .u64 Lib.pow10Tab := by
 obtain ⟨t, z, h⟩ := h
 have := hH _ _ h
 simp [Lib.TabIs, World.var?, hn, show w.heap[g]? = _ from this]
theorem Ext.of_below {M : Prop} {w w' : World} (hM : ¬ M) (h : Below w.heap.size w w') : Ext M w w' := ⟨h.os, h.tape, h.output, h.size, fun b hb => h.block b hb, fun q => absurd q hM⟩
def atoiR (s : Bytes) : Int × Bool := match Lib.atoiAll s with
 | .ok v => (v, false)
 | .range => (Lib.atoiSat s, true)
 | _ => (0, true)
noncomputable def atoiM (s : Bytes) : Option (Int × Bool) := chk (s.length ≤ 1073741824) (some (atoiR s))
noncomputable def itoaM (n : Int) : Option Bytes := chk (-9223372036854775808 ≤ n ∧ n ≤ 9223372036854775807) (some (Lib.itoa n))
section
variable {P : Program} {r : Option Nat} {n : Cont} {p : List PanicEntry → Cont} {ops : Array Oper} {rest : List Oper} {d : Nat} {ty : TypeId} {pos : String} {af : Array Edge} {x : Fr} {Hs : List Hp} {σ : Owns} {L : Env}
theorem neE {y : Operand} {t u : TypeId} {v : Value} {b : Bool} {ms : _} (hu' : P.underlying t = some (.interface ms)) (hd : Nat.blt d x.k = true) (hy : ev L y = some v) (hb : Er v b) (h : OG P r ops n p x Hs σ ((d, .bool b) :: L) rest) : OG P r ops n p x Hs σ L (⟨some d, .binOp .neq t y (.const .nilIface) u, ty, pos, af, none⟩ :: rest) := fun a w hS hA => by
 have hu : P.underlying t = some (.interface (P.methodsAt t)) := by rw [hu']; simp [Program.methodsAt, hu']
 refine O_run rfl (fun _ h => by cases h) (w' := w) (v := .bool b) ?_ (h _ w hS (hA.put hd _))
 rcases hb with ⟨rfl, rfl⟩ | ⟨rfl, te, pe, rfl⟩ <;> simp [execOp, hA.eval hy, show a.eval (.const .nilIface) = .nilIface from rfl, eqGuard, run_neq_nil_nil w t hu, run_neq_held_nil w t _ _ hu, run_eql_nil_nil w t hu, run_eql_held_nil w t _ _ hu, Result.andThen]
end
end Pk
namespace Pk
open Go Go.RowKit Go.ChangeShapes Go.WideShapes
def Rdg (P : Program) (w : World) (t : TypeId) (n : Nat) {α : Type} (R : Hp → List Value → α → Prop) (ok : α → Prop) : Prop :=
 P.cellsOf t = n ∧ ∀ {H : Type} (enc : TypeId × Value → H) (base : Nat) (sp : Nat → Bool) (held : Bool) (fuel : Nat) (cs : List Value) (x : DataW H × List MemPlace), DataW.trod enc P w base sp held fuel t cs = some x → cs.length = n ∧ ∃ a, R (hp w) cs a ∧ ok a
abbrev okInt (k : IntKind) (n : Int) : Prop := k.min ≤ n ∧ n ≤ k.max
abbrev okL {α : Type} (ok : α → Prop) (l : List α) : Prop := ∀ x ∈ l, ok x
section
variable {P : Program} {w : World} {t e : TypeId}
theorem rd_one {α : Type} {R : Hp → List Value → α → Prop} {ok : α → Prop} {ds : TypeDesc} (_hu : P.underlying t = some ds) (hc : P.cellsOf t = 1)
  (h0 : ∀ {H : Type} (enc : TypeId × Value → H) (base : Nat) (sp : Nat → Bool) (held : Bool) (fuel : Nat), DataW.trod enc P w base sp held (fuel + 1) t [] = none)
  (h2 : ∀ {H : Type} (enc : TypeId × Value → H) (base : Nat) (sp : Nat → Bool) (held : Bool) (fuel : Nat) (u v : Value) (l : List Value), DataW.trod enc P w base sp held (fuel + 1) t (u :: v :: l) = none)
  (h1 : ∀ {H : Type} (enc : TypeId × Value → H) (base : Nat) (sp : Nat → Bool) (held : Bool) (fuel : Nat) (v : Value) (x : DataW H × List MemPlace), DataW.trod enc P w base sp held (fuel + 1) t [v] = some x → ∃ a, R (hp w) [v] a ∧ ok a) : Rdg P w t 1 R ok := by
 refine ⟨hc, fun {H} enc base sp held fuel cs x h => ?_⟩
 cases fuel with
 | zero => cases h
 | succ fuel =>
  match cs, h with
  | [], h => rw [h0] at h; cases h
  | [v], h => exact ⟨rfl, h1 enc base sp held fuel v x h⟩
  | u :: v :: l, h => rw [h2] at h; cases h
theorem rd_int {k : IntKind} (hu : P.underlying t = some (.int k)) (hc : P.cellsOf t = 1) : Rdg P w t 1 (Flat (encI k)) (okInt k) := by
 refine rd_one hu hc (fun enc base sp held fuel => by unfold DataW.trod; rw [hu]) (fun enc base sp held fuel u v l => by unfold DataW.trod; rw [hu]; cases u <;> rfl) (fun enc base sp held fuel v x h => ?_)
 unfold DataW.trod at h
 rw [hu] at h
 cases v <;> simp at h
 rename_i k' n
 obtain ⟨⟨rfl, hw⟩, _⟩ := h
 exact ⟨n, rfl, by simpa [Lit.wf, IntKind.has] using hw⟩
theorem rd_string (hu : P.underlying t = some .string) (hc : P.cellsOf t = 1) : Rdg P w t 1 (Flat encS) (fun s => s.length ≤ maxLen) := by
 refine rd_one hu hc (fun enc base sp held fuel => by unfold DataW.trod; rw [hu]) (fun enc base sp held fuel u v l => by unfold DataW.trod; rw [hu]; cases u <;> rfl) (fun enc base sp held fuel v x h => ?_)
 unfold DataW.trod at h
 rw [hu] at h
 cases v <;> simp at h
 rename_i s
 refine ⟨s.data.toList, ?_, by show s.data.toList.length ≤ maxLen; rw [Array.length_toList]; exact h.1⟩
 show _ = encS _
 simp [encS, bs]
theorem ex_list {α : Type} {Q : Nat → α → Prop} : ∀ (n : Nat), (∀ i, i < n → ∃ x, Q i x) → ∃ l : List α, l.length = n ∧ ∀ i x, l[i]? = some x → Q i x
 | 0, _ => ⟨[], rfl, fun i x h => by simp at h⟩
 | n + 1, h => by
  obtain ⟨l, h1, h2⟩ := ex_list n (fun i hi => h i (by omega))
  obtain ⟨x, hx⟩ := h n (by omega)
  refine ⟨l ++ [x], by simp [h1], fun i y hy => ?_⟩
  by_cases hi : i < l.length
  ·rw [List.getElem?_append_left hi] at hy; exact h2 i y hy
  ·rw [List.getElem?_append_right (by omega)] at hy
   have : i - l.length = 0 := by
    by_cases c : i - l.length = 0
    ·exact c
    ·rw [List.getElem?_eq_none (by simp; omega)] at hy; cases hy
   rw [this] at hy
   simp at hy
   subst hy
   rw [show i = n by omega]; exact hx
theorem mapM_at {α β : Type} {f : α → Option β} : ∀ {l : List α} {ys : List β}, l.mapM f = some ys → ∀ x ∈ l, ∃ y, f x = some y
 | [], _, _, x, hx => by cases hx
 | a :: l, ys, h, x, hx => by
  simp only [List.mapM_cons, Option.pure_def, Option.bind_eq_bind, Option.bind_eq_some_iff] at h
  obtain ⟨y, h1, zs, h2, _⟩ := h
  rcases List.mem_cons.1 hx with rfl | hx
  ·exact ⟨y, h1⟩
  ·exact mapM_at h2 x hx
theorem cells_ca {base : Nat} {a : Addr} {n : Nat} {cs : List Value} (h : w.cells? base a n = some cs) (hn : 0 < n) : CellsAt (hp w) a cs ∧ cs.length = n := by
 unfold World.cells? at h
 split at h
 ·have hlen : cs.length = n := by
   have : ∀ (l : List Nat) (ys : List Value), l.mapM (fun i => w.cell? (a.add i)) = some ys → ys.length = l.length := by
    intro l
    induction l with
    | nil => intro ys h; simp at h; subst h; rfl
    | cons x l ih =>
     intro ys h
     simp only [List.mapM_cons, Option.pure_def, Option.bind_eq_bind, Option.bind_eq_some_iff] at h
     obtain ⟨y, _, zs, h2, h3⟩ := h
     cases h3; simp [ih _ h2]
   rw [this _ _ h]; simp
  have hat : ∀ (l : List Nat) (ys : List Value), l.mapM (fun i => w.cell? (a.add i)) = some ys → ∀ (j : Nat) (v : Value), ys[j]? = some v → ∃ i : Nat, l[j]? = some i ∧ w.cell? (a.add i) = some v := by
   intro l
   induction l with
   | nil => intro ys h j v hj; simp at h; subst h; simp at hj
   | cons x l ih =>
    intro ys h j v hj
    simp only [List.mapM_cons, Option.pure_def, Option.bind_eq_bind, Option.bind_eq_some_iff] at h
    obtain ⟨y, h1, zs, h2, h3⟩ := h
    cases h3
    cases j with
    | zero => simp at hj; subst hj; exact ⟨x, rfl, h1⟩
    | succ j => simp at hj; exact ih _ h2 j v hj
  have hij : ∀ j i : Nat, (List.range n)[j]? = some i → i = j := by
   intro j i hi
   have hlt : j < n := by
    have := (List.getElem?_eq_some_iff.1 hi).1; simpa using this
   rw [List.getElem?_range hlt] at hi; simpa using hi.symm
  have hs : a.spot = none := by
   obtain ⟨i, hi, hv⟩ := hat _ _ h 0 (cs[0]'(by omega)) (List.getElem?_eq_getElem _)
   obtain rfl := hij _ _ hi
   have ha : a.add 0 = a := by simp [Addr.add]
   rw [ha] at hv
   unfold World.cell? at hv
   split at hv
   ·cases hs : a.spot with
    | none => rfl
    | some s => simp [hs] at hv
   ·cases hv
  refine ⟨⟨hs, fun j v hj => ?_⟩, hlen⟩
  obtain ⟨i, hi, hv⟩ := hat _ _ h j v hj
  obtain rfl := hij _ _ hi
  rw [addr_add hs] at hv
  unfold World.cell? at hv
  simp only at hv
  split at hv
  ·rename_i c ty fz hh
   simp at hv
   exact ⟨c, ty, fz, hh, hv⟩
  ·cases hv
 ·cases h
theorem rd_slice {α : Type} {R : Hp → List Value → α → Prop} {ok : α → Prop} {n : Nat} (hu : P.underlying t = some (.slice e)) (hc : P.cellsOf t = 1) (hn : 0 < n) (he : Rdg P w e n R ok) : Rdg P w t 1 (RSl R n) (okL ok) := by
 refine ⟨hc, fun {H} enc base sp held fuel cs x h => ?_⟩
 cases fuel with
 | zero => cases h
 | succ fuel =>
  unfold DataW.trod at h
  rw [hu] at h
  split at h <;> try (simp_all; done)
  ·exact ⟨rfl, [], ⟨none, 0, rfl, Sl.nil _ _ _ _ _ (by decide)⟩, fun x hx => by cases hx⟩
  ·rename_i e' a len cap he'
   cases he'
   split at h
   ·rename_i hb
    rw [Option.bind_eq_some_iff] at h
    obtain ⟨elems, h1, _⟩ := h
    rw [he.1] at h1
    have hat : ∀ i, i < len → ∃ z, (∃ cs, w.cells? base (a.add (i * n)) n = some cs ∧ R (hp w) cs z) ∧ ok z := by
     intro i hi
     obtain ⟨y, hy⟩ := mapM_at h1 i (List.mem_range.2 hi)
     rw [Option.bind_eq_some_iff] at hy
     obtain ⟨cs, hcs, hy⟩ := hy
     obtain ⟨_, z, hz1, hz2⟩ := he.2 enc base sp held fuel cs y hy
     exact ⟨z, ⟨cs, hcs, hz1⟩, hz2⟩
    obtain ⟨l, hl, hq⟩ := ex_list len hat
    subst hl
    refine ⟨rfl, l, ⟨some a, cap, rfl, ⟨hb.2.1, Nat.le_trans hb.2.2 (by decide)⟩, fun i z hz => ?_⟩, fun z hz => ?_⟩
    ·obtain ⟨⟨cs, h2, h3⟩, _⟩ := hq i z hz
     obtain ⟨h4, h5⟩ := cells_ca h2 hn
     have hsp : a.spot = none := by
      obtain ⟨_, ⟨cs0, h6, _⟩, _⟩ := hat 0 (by have := lt_of hz; omega)
      have := (cells_ca h6 hn).1.1
      simpa [Addr.add] using this
     exact ⟨a, cs, rfl, hsp, h5, h4, h3⟩
    ·obtain ⟨i, hi⟩ := List.mem_iff_getElem?.1 hz
     exact (hq i z hi).2
   ·cases h
def pcs (cs : List Value) : List Nat → Nat → List (List Value)
 | [], _ => []
 | n :: ns, o => (cs.drop o).take n :: pcs cs ns (o + n)
theorem pcs_eq (cs : List Value) : ∀ (ns : List Nat) (o : Nat), cs.length = o + ns.sum → cs.drop o = (pcs cs ns o).flatten
 | [], o, h => by simp at h; simp [pcs, List.drop_eq_nil_of_le (Nat.le_of_eq h)]
 | n :: ns, o, h => by
  simp only [pcs, List.flatten_cons]
  rw [← pcs_eq cs ns (o + n) (by simp at h; omega), ← List.drop_drop, List.take_append_drop]
theorem trod_struct {H : Type} {enc : TypeId × Value → H} {base : Nat} {sp : Nat → Bool} {held : Bool} {fuel : Nat} {cs : List Value} {x : DataW H × List MemPlace} {fs : Array Field} (hu : P.underlying t = some (.struct fs)) (h : DataW.trod enc P w base sp held fuel t cs = some x) :
  cs.length = P.cellsOf t ∧ ∃ fuel', ∀ f ∈ fs.toList, ∃ y, DataW.trod enc P w base sp held fuel' f.type ((cs.drop f.offset).take (P.cellsOf f.type)) = some y := by
 cases fuel with
 | zero => cases h
 | succ fuel =>
  unfold DataW.trod at h
  rw [hu] at h
  simp only at h
  split at h
  ·rename_i hl
   refine ⟨hl, fuel, fun f hf => ?_⟩
   rw [Option.map_eq_some_iff] at h
   obtain ⟨ys, h1, _⟩ := h
   exact mapM_at h1 f hf
  ·cases h
theorem rd_arg {α : Type} {R : Hp → List Value → α → Prop} {ok : α → Prop} (hr : Rdg P w t 1 R ok) {H : Type} {enc : TypeId × Value → H} {base b0 : Nat} {sp : Nat → Bool} {held : Bool} {v : Value} {d : DataW H} {ps : List MemPlace} (hv : Value.okWide P w .any b0 t v) (hns : ∀ cs, v ≠ .agg cs) (h : DataW.Trod enc P w base sp held t v d ps) : ∃ a, R (hp w) [v] a ∧ ok a := by
 obtain ⟨fuel, h⟩ := h
 obtain ⟨_, a, h1, h2⟩ := hr.2 enc base sp held fuel _ _ h
 have : v.cells.toList = [v] := by
  cases v <;> first | rfl | exact absurd rfl (hns _)
 rw [this] at h1
 exact ⟨a, h1, h2⟩
theorem rd_aggarg {α : Type} {n : Nat} {R : Hp → List Value → α → Prop} {ok : α → Prop} (hr : Rdg P w t n R ok) {H : Type} {enc : TypeId × Value → H} {base b0 : Nat} {sp : Nat → Bool} {held : Bool} {v : Value} {d : DataW H} {ps : List MemPlace} {fs : Array Field} (hu : P.underlying t = some (.struct fs)) (hv : Value.okWide P w .any b0 t v) (h : DataW.Trod enc P w base sp held t v d ps) : ∃ cs a, v = .agg cs.toArray ∧ R (hp w) cs a ∧ ok a := by
 unfold Value.okWide at hv
 rw [hu] at hv
 obtain ⟨cs, rfl, _, _⟩ := hv
 obtain ⟨fuel, h⟩ := h
 obtain ⟨_, a, h1, h2⟩ := hr.2 enc base sp held fuel _ _ h
 exact ⟨cs.toList, a, by simp, h1, h2⟩
theorem nsl (hu : P.underlying t = some (.slice e)) {b0 : Nat} {v : Value} (hv : Value.okWide P w .any b0 t v) : ∀ cs, v ≠ .agg cs := by
 rintro cs rfl
 unfold Value.okWide at hv
 rw [hu] at hv
 simp only [Cell.okWide, hu, Cell.ok] at hv
end
section
variable {H : Type} {enc : TypeId × Value → H} {P : Program}
theorem trodAll_stays (hl : laidOutB P = true) {W W' : World} {sp : Nat → Bool} (hb : Below W.heap.size W W') : ∀ {ts : List TypeId} {vs : List Value} {ds : List (DataW H)} {ps : List MemPlace}, (∀ t ∈ ts, P.readableRec t = true ∧ t < P.types.size) → DataW.TrodAll enc P W 0 (fun _ => true) true ts vs ds ps → (∀ x ∈ ps, x.block < W.heap.size) → (∀ x ∈ ps, sp x.block = true) → DataW.TrodAll enc P W' 0 sp true ts vs ds ps
 | [], _, _, _, _, h, _, _ => by
  obtain ⟨rfl, rfl, rfl⟩ := trodAll_nil h
  exact rfl
 | t :: ts, _, _, _, hr, h, hlt, hs => by
  obtain ⟨v, vs, d, ds, p, q, rfl, rfl, rfl, h1, h2⟩ := trodAll_cons h
  have ht := hr t List.mem_cons_self
  exact ⟨p, q, WideElems.Trod_stays hl ht.1 ht.2 h1 (fun x hx => hb.same (hlt x (List.mem_append_left _ hx))) (fun x hx => hs x (List.mem_append_left _ hx)),
   trodAll_stays hl hb (fun u hu => hr u (List.mem_cons_of_mem _ hu)) h2 (fun x hx => hlt x (List.mem_append_right _ hx)) (fun x hx => hs x (List.mem_append_right _ hx)), rfl⟩
theorem ext_below {M : Prop} {w w' : World} (h : Ext M w w') : Below w.heap.size w w' := ⟨h.os, h.tape, h.output, h.size, fun b hb => h.keep b hb⟩
theorem kept_of {M : Prop} {w w' : World} (h : Ext M w w') (may : MemPlace → Prop) : w.keptBut w' may := by
 refine ⟨h.os, h.output, fun i hi => ?_⟩
 rw [h.keep i hi]
 cases w.heap[i]? with
 | none => trivial
 | some o => cases o <;> first | rfl | exact ⟨rfl, rfl, rfl, fun _ _ => rfl⟩ | exact .inr ⟨rfl, rfl⟩
theorem post_law {f : Func} {s : ChangeSpec} {apart fresh handsOn again : Bool} {W W' : World} {args : Array Value} {ds gs : List (DataW H)} {before : List MemPlace} {tb : TypeId}
  (hW : DataW.Whole enc P f.params.toList s.vars apart W args.toList ds gs before) (hv : s.vars = []) (hl : laidOutB P = true) (hr : ∀ t ∈ f.params.toList, P.readableRec t = true ∧ t < P.types.size)
  (hs : s.fn H ds = { results := [.lit (.bool true)], args := ds }) (hrt : f.resultTypes = #[tb]) (hb : P.underlying tb = some .bool) {M : Prop} (hE : Ext M W W') : s.post enc P f apart fresh handsOn again W args (.bool true) W' := by
 have hB := ext_below hE
 have hlt : ∀ x ∈ before, x.block < W.heap.size := fun x hx => by simpa using hW.lt x hx
 have hold : ∀ p ∈ before, (fun b => decide (b < W.heap.size)) p.block = true := fun p hp => by simpa using hlt p hp
 have hW0 := hW
 obtain ⟨p, q, hA, hV, rfl, hz, hn⟩ := hW
 rw [hv] at hV
 obtain ⟨rfl, rfl⟩ := trodVars_none hV
 rw [List.append_nil] at *
 have hfn : s.fn H (ds ++ []) = { results := [.lit (.bool true)], args := ds } := by rw [List.append_nil]; exact hs
 have hargs : ∀ sp : Nat → Bool, (∀ x ∈ p, sp x.block = true) → DataW.TrodAll enc P W' 0 sp true f.params.toList args.toList ds p := fun sp h => trodAll_stays hl hB hr hA hlt h
 have hres : ∀ (b : Nat) (sp : Nat → Bool) (hd : Bool), DataW.TrodAll enc P W' b sp hd f.resultTypes.toList ((Value.bool true).resultList f.resultTypes.size) [.lit (.bool true)] [] := fun b sp hd => by
  rw [hrt]; exact trodAll_mk1 (shut_bool hb _)
 have hvars : ∀ sp : Nat → Bool, DataW.TrodVars enc P W' sp s.vars [] [] := fun sp => by rw [hv]; rfl
 refine ⟨ds, [], p, [], p, [], by simpa using hW0, by rw [hfn]; exact hres _ _ _, by rw [hfn]; exact hargs _ hold, by rw [hfn]; exact hvars _, World.keptBut_mono (fun x hx => ⟨hx, by simpa using hx⟩) (kept_of hE _), fun _ => ?_⟩
 refine ⟨ok_one hrt rfl (okWide_bool_mk hb _), _, _, ([] ++ p) ++ [], ⟨[] ++ p, [], trodAll_append (hargs _ (fun _ _ => rfl)) (hres _ _ _), hvars _, rfl, ?_, ?_⟩, ?_⟩
 ·intro b off hp
  have hp' : MemPlace.cell b off ∈ p := by simpa using hp
  have hb' : b < W.heap.size := hlt _ hp'
  have : W'.frozen? ⟨b, off, none⟩ = W.frozen? ⟨b, off, none⟩ := by
   unfold World.frozen?; rw [hE.keep b hb']
  rw [this]
  exact hz b off hp'
 ·intro ha
  have := hn ha
  simpa using this
 ·intro x hx _
  simpa using hx
end
section
variable {H : Type} {enc : TypeId × Value → H} {P : Program} {w : World} {t e : TypeId} {base : Nat} {sp : Nat → Bool} {held : Bool} {fuel : Nat} {cs : List Value}
theorem rd_iface {ms : Array (String × TypeId)} {x : DataW H × List MemPlace} (hu : P.underlying t = some (.interface ms)) (h : DataW.trod enc P w base sp held fuel t cs = some x) : ∃ v, cs = [v] ∧ Ifc v := by
 cases fuel with
 | zero => cases h
 | succ fuel =>
  unfold DataW.trod at h
  rw [hu] at h
  match cs, h with
  | [], h => cases h
  | [.nilIface], _ => exact ⟨_, rfl, .inl rfl⟩
  | [.iface u v], _ => exact ⟨_, rfl, .inr ⟨_, _, rfl⟩⟩
  | u :: v :: l, h => cases u <;> simp at h
  | [.bool _], h | [.int _ _], h | [.float _ _], h | [.complex _ _ _], h | [.string _], h | [.pointer _], h | [.slice _ _ _], h | [.agg _], h | [.tuple _], h | [.map _], h | [.chan _], h | [.func _ _ _], h | [.nilFunc], h => simp at h
theorem var_cells {n : String} {g : Nat} {cs : Array Value} (hg : P.globalNamed n = some g) (hv : w.var? P n = some cs) : ∃ t z, hp w g = some (.cells cs t z) := by
 unfold World.var? at hv
 rw [hg, Option.bind_some] at hv
 split at hv
 ·rename_i c t z hh
  cases hv
  exact ⟨t, z, hh⟩
 ·cases hv
theorem var_one {n : String} {g : Nat} {cs : Array Value} {v : Value} (hg : P.globalNamed n = some g) (hv : w.var? P n = some cs) (hc : cs.toList = [v]) : CellsAt (hp w) ⟨g, 0, none⟩ [v] := by
 obtain ⟨t, z, h⟩ := var_cells hg hv
 refine ⟨rfl, fun j u hu => ⟨cs, t, z, h, ?_⟩⟩
 rw [← hc] at hu
 simpa using hu
theorem mapM_get {α β : Type} {f : α → Option β} : ∀ {l : List α} {ys : List β}, l.mapM f = some ys → ∀ i : Nat, (l[i]?).bind f = ys[i]?
 | [], ys, h, i => by simp at h; subst h; simp
 | a :: l, ys, h, i => by
  simp only [List.mapM_cons, Option.pure_def, Option.bind_eq_bind, Option.bind_eq_some_iff] at h
  obtain ⟨y, h1, zs, h2, h3⟩ := h
  cases h3
  cases i with
  | zero => simpa using h1
  | succ i => simpa using mapM_get h2 i
theorem rd_tab {k : IntKind} {n : Nat} {zs : List Int} {ps : List MemPlace} (hu : P.underlying t = some (.array n e)) (he : P.underlying e = some (.int k)) (hc : P.cellsOf e = 1) (ht : P.cellsOf t = n) (h : DataW.trod enc P w base sp held fuel t cs = some (.agg (zs.map fun z => .lit (.int k z)), ps)) : cs = zs.map fun z => Value.int k z := by
 cases fuel with
 | zero => cases h
 | succ fuel =>
  unfold DataW.trod at h
  rw [hu] at h
  simp only at h
  split at h
  ·rename_i hl
   rw [Option.map_eq_some_iff] at h
   obtain ⟨xs, h1, h2⟩ := h
   simp only [Prod.mk.injEq, DataW.agg.injEq] at h2
   have hx := h2.1
   rw [hc] at h1
   apply List.ext_getElem?
   intro i
   have hi := mapM_get h1 i
   by_cases hin : i < n
   ·rw [List.getElem?_range hin, Option.bind_some] at hi
    have hlt : i < cs.length := by omega
    have e1 : (cs.drop (i * 1)).take 1 = [cs[i]] := by rw [Nat.mul_one, List.drop_eq_getElem_cons hlt, List.take_succ_cons, List.take_zero]
    rw [e1] at hi
    have hxi : xs[i]? ≠ none := by
     intro hn
     obtain ⟨y, hy⟩ := mapM_at h1 i (List.mem_range.2 hin)
     rw [e1, hi, hn] at hy; cases hy
    cases hxs : xs[i]? with
    | none => exact absurd hxs hxi
    | some y =>
     rw [hxs] at hi
     have hz : (zs.map fun z => (DataW.lit (.int k z) : DataW H))[i]? = some y.1 := by rw [← hx]; simp [hxs]
     cases fuel with
     | zero => cases hi
     | succ fuel =>
      unfold DataW.trod at hi
      rw [he] at hi
      rw [List.getElem?_eq_getElem hlt]
      cases hv : cs[i] <;> rw [hv] at hi <;> simp at hi
      rename_i k' m
      obtain ⟨⟨rfl, _⟩, rfl⟩ := hi
      simp only [List.getElem?_map, Option.map_eq_some_iff] at hz ⊢
      obtain ⟨z, hz1, hz2⟩ := hz
      cases hz2
      simp [hz1]
   ·have : xs[i]? = none := by
     rw [← hi, List.getElem?_eq_none (by simp; omega)]; rfl
    have hz : (zs.map fun z => (DataW.lit (.int k z) : DataW H))[i]? = none := by rw [← hx]; simp [this]
    rw [List.getElem?_eq_none (show cs.length ≤ i by omega)]
    rw [List.getElem?_eq_none_iff, List.length_map] at hz
    symm
    rw [List.getElem?_eq_none_iff, List.length_map]
    exact hz
  ·cases h
theorem gl_mk {gS gR gT : Nat} {nS nR nT : String} {cS cR cT : Array Value} {vS vR : Value} (h1 : P.globalNamed nS = some gS) (h2 : w.var? P nS = some cS) (h3 : cS.toList = [vS]) (h4 : Ifc vS) (h5 : P.globalNamed nR = some gR) (h6 : w.var? P nR = some cR) (h7 : cR.toList = [vR]) (h8 : Ifc vR)
  (h9 : P.globalNamed nT = some gT) (h10 : w.var? P nT = some cT) (h11 : cT.toList = Lib.pow10Tab.map fun z => Value.int .u64 z) : Gl False gS gR gT (hp w) := by
 refine ⟨not_false, ⟨vS, var_one h1 h2 h3, h4⟩, ⟨vR, var_one h5 h6 h7, h8⟩, ?_⟩
 obtain ⟨t, z, h⟩ := var_cells h9 h10
 have : cT = (Lib.pow10Tab.map fun z => Value.int .u64 z).toArray := by rw [← h11]
 exact ⟨t, z, by rw [← this]; exact h⟩
end
end Pk
namespace Pk
open Go Go.Proofs
section
variable {P : Program} {r : Option Nat} {n : Cont} {p : List PanicEntry → Cont} {ops : Array Oper} {rest : List Oper} {d : Nat} {ty : TypeId} {pos : String} {af : Array Edge} {x : Fr} {Hs : List Hp} {σ : Owns} {L : Env}
end
end Pk
namespace Pk
open Go
theorem tv : True := ⟨⟩
theorem sj {α : Type} {x y : α} (h : some x = some y) : x = y := Option.some.inj h
section
variable {P : Program} {r : Option Nat} {ops : Array Oper} {ms : List Nat} {D : List Deferred} {k : Nat} {M : Prop} {w0 : World} {H0 : Hp} {Hs : List Hp} {σ : Owns} {L0 : Env} {i : Nat} {o : Oper} {rest : List Oper} {E : Env} {F : Facts} {d : Nat} {v : Value}
theorem dt {fin : Env → Facts → Prop} (hd : o.dst = some d) (hX : ∀ {K}, TG ⟨D, k, M, w0, H0⟩ (K :: Hs) σ (flt (o.looksAt ops) E ++ L0) (O P r ops (fun a' w' => ∃ (_ : Unit) (K' : Hp), K.le K' ∧ St M w0 H0 (K' :: Hs) σ w' ∧ a'.tmps[d]? = some v ∧ a'.defers = D ∧ True) (fun _ _ _ => False) [o]))
  (h : DF P r ops ms D k M w0 H0 Hs σ L0 fin (i + 1) rest ((d, v) :: E) F) : DF P r ops ms D k M w0 H0 Hs σ L0 fin i (o :: rest) E F :=
 .det hd (fun a w K hS hA _ => hX a w hS hA) h
theorem dc {us : List Nat} {T : List (Nat × Nat × Value)} {fin : Owns → Env → Facts → Prop} {prev : List (Nat × Owns)} (hne : us.contains i = false) (hb : hbB us ms i = true) (hp : HP (fun τ => τ = σ) (ms.getD i 0) prev) (hn : untaken T i = true) (hd : o.dst = some d)
  (hX : ∀ {K}, TG ⟨D, k, M, w0, H0⟩ (K :: Hs) σ (flt (o.looksAt ops) E ++ L0) (O P r ops (fun a' w' => ∃ (_ : Unit) (K' : Hp), K.le K' ∧ St M w0 H0 (K' :: Hs) σ w' ∧ a'.tmps[d]? = some v ∧ a'.defers = D ∧ True) (fun _ _ _ => False) [o]))
  (h : DC P r ops ms D k M w0 H0 Hs L0 us T fin prev σ (i + 1) rest ((d, v) :: E) F) : DC P r ops ms D k M w0 H0 Hs L0 us T fin prev σ i (o :: rest) E F :=
 .det (fun τ => τ = σ) hne rfl hb hp hn hd (fun τ hτ a w K hS hA _ => by subst hτ; exact hX a w hS hA) h
end
def gd (ops : Array Oper) (L : Env) (j : Nat) : Option Value := ((ops[j]?).bind (·.dst)).bind (lk L)
def eb (d k : Nat) (v : Option Value) : Option Value := bif Nat.blt d k then v else none
theorem eb_of {d k : Nat} {v : Option Value} {u : Value} (h : eb d k v = some u) : Nat.blt d k = true ∧ v = some u := by
 unfold eb at h
 cases hb : Nat.blt d k with
 | true => rw [hb] at h; exact ⟨rfl, h⟩
 | false => rw [hb] at h; cases h
theorem gd_of {ops : Array Oper} {L : Env} {j : Nat} {v : Value} (h : gd ops L j = some v) : ∃ dj, (ops[j]?).bind (·.dst) = some dj ∧ lk L dj = some v := by
 unfold gd at h
 cases hb : (ops[j]?).bind (·.dst) with
 | none => rw [hb] at h; cases h
 | some dj => rw [hb] at h; exact ⟨dj, rfl, h⟩
section
variable {P : Program} {r : Option Nat} {n : Cont} {p : List PanicEntry → Cont} {ops : Array Oper} {rest : List Oper} {d : Nat} {ty : TypeId} {pos : String} {af : Array Edge} {x : Fr} {Hs : List Hp} {σ : Owns} {L : Env}
theorem gt {op : Op} {dst : Option Nat} {j : Nat} {q : Prop} [Decidable q] (hq : q) (hb : gd ops L j = some (.bool (decide q))) (h : OG P r ops n p x Hs σ L (⟨dst, op, ty, pos, af, none⟩ :: rest)) : OG P r ops n p x Hs σ L (⟨dst, op, ty, pos, af, some (j, true)⟩ :: rest) := by
 obtain ⟨dj, h1, h2⟩ := gd_of hb
 exact gN h1 h2 (decide_eq_true hq) h
theorem gf {op : Op} {j : Nat} {q : Prop} [Decidable q] (hq : ¬ q) (hb : eb d x.k (gd ops L j) = some (.bool (decide q))) (h : OG P r ops n p x Hs σ ((d, undef) :: L) rest) : OG P r ops n p x Hs σ L (⟨some d, op, ty, pos, af, some (j, true)⟩ :: rest) := by
 obtain ⟨hd, hb⟩ := eb_of hb
 obtain ⟨dj, h1, h2⟩ := gd_of hb
 exact gF h1 h2 (decide_eq_false hq) hd h
theorem gt' {op : Op} {dst : Option Nat} {j : Nat} {q : Prop} [Decidable q] (hq : ¬ q) (hb : gd ops L j = some (.bool (decide q))) (h : OG P r ops n p x Hs σ L (⟨dst, op, ty, pos, af, none⟩ :: rest)) : OG P r ops n p x Hs σ L (⟨dst, op, ty, pos, af, some (j, false)⟩ :: rest) := by
 obtain ⟨dj, h1, h2⟩ := gd_of hb
 exact gN h1 h2 (decide_eq_false hq) h
theorem gf' {op : Op} {j : Nat} {q : Prop} [Decidable q] (hq : q) (hb : eb d x.k (gd ops L j) = some (.bool (decide q))) (h : OG P r ops n p x Hs σ ((d, undef) :: L) rest) : OG P r ops n p x Hs σ L (⟨some d, op, ty, pos, af, some (j, false)⟩ :: rest) := by
 obtain ⟨hd, hb⟩ := eb_of hb
 obtain ⟨dj, h1, h2⟩ := gd_of hb
 exact gF h1 h2 (decide_eq_true hq) hd h
theorem m1 {y : Operand} {v : Value} (hy : eb d x.k (ev L y) = some v) (h : OG P r ops n p x Hs σ ((d, v) :: L) rest) : OG P r ops n p x Hs σ L (⟨some d, .move y, ty, pos, af, none⟩ :: rest) := mv (eb_of hy).1 (eb_of hy).2 h
theorem a1 {y : Operand} {v : Value} (hy : eb d x.k (ev L y) = some v) (h : OG P r ops n p x Hs σ ((d, v) :: L) rest) : OG P r ops n p x Hs σ L (⟨some d, .assign y, ty, pos, af, none⟩ :: rest) := av (eb_of hy).1 (eb_of hy).2 h
theorem pt {c y z : Operand} {q : Prop} [Decidable q] {v : Value} (hq : q) (hc : ev L c = some (.bool (decide q))) (hv : eb d x.k (ev L y) = some v) (h : OG P r ops n p x Hs σ ((d, v) :: L) rest) : OG P r ops n p x Hs σ L (⟨some d, .pick c y z, ty, pos, af, none⟩ :: rest) := pT (eb_of hv).1 hc (decide_eq_true hq) (eb_of hv).2 h
theorem pf {c y z : Operand} {q : Prop} [Decidable q] {v : Value} (hq : ¬ q) (hc : ev L c = some (.bool (decide q))) (hv : eb d x.k (ev L z) = some v) (h : OG P r ops n p x Hs σ ((d, v) :: L) rest) : OG P r ops n p x Hs σ L (⟨some d, .pick c y z, ty, pos, af, none⟩ :: rest) := pF (eb_of hv).1 hc (decide_eq_false hq) (eb_of hv).2 h
theorem cu {M : Prop} {w0 : World} {H0 : Hp} {D : List Deferred} {k : Nat} {L' : Env} (h : Sub L L') : ∀ a w, St M w0 H0 Hs σ w → Has D k a L → St M w0 H0 Hs σ w ∧ Has D k a L' := fun a w hS hA => ⟨hS, hA.cut h⟩
end
end Pk
namespace Pk
open Go
abbrev Adr := Option Addr × Nat
def encV (v : Value) : List Value := [v]
def hdrs {α : Type} : List Adr → List (List α) → List Value
 | a :: az, y :: g => .slice a.1 y.length a.2 :: hdrs az g
 | _, _ => []
def grp {α : Type} (el : TypeId) (size : Nat) (enc : α → List Value) : Nat → List Adr → List (List α) → Owns
 | i, a :: az, y :: g => (i, .list a.1 a.2 el size enc y) :: grp el size enc (i + 1) az g
 | _, _, _ => []
structure Grid {α : Type} (hd : List Value) (az : List Adr) (g : List (List α)) : Prop where
 len : az.length = g.length
 hd : hd = hdrs az g
section
variable {α : Type}
theorem hdrs_get : ∀ {az : List Adr} {g : List (List α)} {j : Nat} {a : Adr} {y : List α}, az[j]? = some a → g[j]? = some y → (hdrs az g)[j]? = some (.slice a.1 y.length a.2)
 | [], _, _, _, _, h, _ => by simp at h
 | _ :: _, [], _, _, _, _, h => by simp at h
 | b :: az, z :: g, 0, a, y, h, h2 => by simp at h h2; subst h; subst h2; simp [hdrs]
 | b :: az, z :: g, j + 1, a, y, h, h2 => by
  have := hdrs_get (az := az) (g := g) (j := j) (a := a) (y := y) (by simpa using h) (by simpa using h2)
  simpa [hdrs] using this
theorem hdrs_set : ∀ {az : List Adr} {g : List (List α)} {j : Nat} {y z : List α}, g[j]? = some y → z.length = y.length → hdrs az (g.set j z) = hdrs az g
 | [], _, _, _, _, _, _ => by simp [hdrs]
 | _ :: _, [], _, _, _, h, _ => by simp at h
 | b :: az, x :: g, 0, y, z, h, h2 => by simp at h; subst h; simp [hdrs, h2]
 | b :: az, x :: g, j + 1, y, z, h, h2 => by
  have := hdrs_set (az := az) (g := g) (j := j) (y := y) (z := z) (by simpa using h) h2
  simpa [hdrs] using this
theorem hdrs_new : ∀ {az : List Adr} {g : List (List α)} {j : Nat} {a : Adr} {z : List α}, hdrs (az.set j a) (g.set j z) = (hdrs az g).set j (.slice a.1 z.length a.2)
 | [], _, _, _, _ => by simp [hdrs]
 | _ :: _, [], _, _, _ => by simp [hdrs]
 | b :: az, x :: g, 0, a, z => by simp [hdrs]
 | b :: az, x :: g, j + 1, a, z => by
  have := hdrs_new (az := az) (g := g) (j := j) (a := a) (z := z)
  simp [hdrs, this]
variable {hd : List Value} {az : List Adr} {g : List (List α)} {j : Nat} {y z : List α} {ad : Option Addr} {cap : Nat}
theorem Grid.at (h : Grid hd az g) (hy : g[j]? = some y) : ∃ ad cap, az[j]? = some (ad, cap) ∧ hd[j]? = some (.slice ad y.length cap) := by
 have hj : j < az.length := by rw [h.len]; exact lt_of hy
 have ha : az[j]? = some az[j] := List.getElem?_eq_getElem hj
 refine ⟨az[j].1, az[j].2, ha, ?_⟩
 rw [h.hd]; exact hdrs_get ha hy
theorem Grid.put (h : Grid hd az g) (hy : g[j]? = some y) (hl : z.length = y.length) : Grid hd az (g.set j z) := ⟨by rw [h.len]; simp, by rw [hdrs_set hy hl]; exact h.hd⟩
theorem Grid.new (h : Grid hd az g) (j : Nat) (z : List α) (ad : Option Addr) (cap : Nat) : Grid (hd.set j (.slice ad z.length cap)) (az.set j (ad, cap)) (g.set j z) := ⟨by simp [h.len], by rw [hdrs_new, h.hd]⟩
theorem Grid.nil (α : Type) : ∀ n : Nat, Grid (α := α) (List.replicate n (.slice none 0 0)) (List.replicate n (none, 0)) (List.replicate n [])
 | 0 => ⟨rfl, rfl⟩
 | n + 1 => ⟨by simp, by
  have := (Grid.nil α n).hd
  simp only [List.replicate_succ, hdrs, List.length_nil, ← this]⟩
variable {el : TypeId} {size : Nat} {enc : α → List Value}
theorem gget : ∀ {az : List Adr} {g : List (List α)} {i j : Nat} {ad : Option Addr} {cap : Nat} {y : List α}, az[j]? = some (ad, cap) → g[j]? = some y → getO (grp el size enc i az g) (i + j) = some (.list ad cap el size enc y)
 | [], _, _, _, _, _, _, h, _ => by simp at h
 | _ :: _, [], _, _, _, _, _, _, h => by simp at h
 | b :: az, x :: g, i, 0, ad, cap, y, h, h2 => by
  simp at h h2; subst h; subst h2
  simp [grp, getO]
 | b :: az, x :: g, i, j + 1, ad, cap, y, h, h2 => by
  have := gget (az := az) (g := g) (i := i + 1) (j := j) (ad := ad) (cap := cap) (y := y) (by simpa using h) (by simpa using h2)
  rw [show i + 1 + j = i + (j + 1) by omega] at this
  simp only [grp, getO, beq_ne (show i ≠ i + (j + 1) by omega), cond_false]
  exact this
theorem gset : ∀ {az : List Adr} {g : List (List α)} {i j : Nat} {ad : Option Addr} {cap : Nat} {z : List α}, az[j]? = some (ad, cap) → setO (grp el size enc i az g) (i + j) (.list ad cap el size enc z) = grp el size enc i az (g.set j z)
 | [], _, _, _, _, _, _, h => by simp at h
 | _ :: _, [], _, _, _, _, _, _ => by simp [grp, setO]
 | b :: az, x :: g, i, 0, ad, cap, z, h => by
  simp at h; subst h
  simp [grp, setO]
 | b :: az, x :: g, i, j + 1, ad, cap, z, h => by
  have := gset (az := az) (g := g) (i := i + 1) (j := j) (ad := ad) (cap := cap) (z := z) (by simpa using h)
  rw [show i + 1 + j = i + (j + 1) by omega] at this
  simp only [grp, setO, beq_ne (show i ≠ i + (j + 1) by omega), cond_false, List.set_cons_succ, this]
theorem gk {σ : Owns} {i b j : Nat} {x : Own} {r : Option Own} (h : Nat.blt i b = true) (k : getO σ (b + j) = r) : getO ((i, x) :: σ) (b + j) = r := by
 have : i < b := by simpa using h
 simp only [getO, beq_ne (show i ≠ b + j by omega), cond_false, k]
theorem zk {σ σ' : Owns} {i b j : Nat} {x y : Own} (h : Nat.blt i b = true) (k : setO σ (b + j) y = σ') : setO ((i, x) :: σ) (b + j) y = (i, x) :: σ' := by
 have : i < b := by simpa using h
 simp only [setO, beq_ne (show i ≠ b + j by omega), cond_false, k]
end
theorem Apart_iff : ∀ {σ : Owns}, Apart σ ↔ (σ.map (·.2)).Pairwise apart
 | [] => by simp [Apart]
 | (i, x) :: σ => by
  simp only [Apart, List.map_cons, List.pairwise_cons, List.mem_map, Apart_iff (σ := σ)]
  refine and_congr ⟨?_, ?_⟩ Iff.rfl
  ·rintro h y ⟨⟨k, z⟩, hm, rfl⟩; exact h k z hm
  ·intro h k y hm; exact h y ⟨(k, y), hm, rfl⟩
theorem St.re {M : Prop} {w0 : World} {H0 : Hp} {Hs : List Hp} {σ σ' : Owns} {w : World} (h : St M w0 H0 Hs σ w) (hm : ∀ i z, (i, z) ∈ σ' → (∃ j, (j, z) ∈ σ) ∨ ∃ el size, z = .row none 0 el size 0 []) (ha : Apart σ') : St M w0 H0 Hs σ' w := by
 refine ⟨h.h0, h.ext, ?_, ?_, ha⟩
 ·intro H hH
  refine (h.le H hH).trans ?_
  intro b o hb
  unfold vis at hb ⊢
  split at hb
  ·cases hb
  ·rename_i hnf
   rw [if_neg ?_]
   ·exact hb
   ·rintro ⟨i, z, hz, hf⟩
    rcases hm i z hz with ⟨j, hj⟩ | ⟨el, size, rfl⟩
    ·exact hnf ⟨j, z, hj, hf⟩
    ·cases hf
 ·intro i z hz
  rcases hm i z hz with ⟨j, hj⟩ | ⟨el, size, rfl⟩
  ·exact h.own j z hj
  ·exact (h.nilRow 0 el size).own 0 _ List.mem_cons_self
theorem apart_nil (x : Own) (el : TypeId) (size : Nat) : apart (.row none 0 el size 0 []) x := fun b h => by cases h
theorem del_perm : ∀ {A : Owns} {t : Nat} {X : Own}, getO A t = some X → (A.map (·.2)).Perm (X :: (delO A t).map (·.2))
 | [], t, X, h => by simp [getO] at h
 | (i, x) :: A, t, X, h => by
  by_cases e : i = t
  ·subst e
   simp [getO] at h; subst h
   simp [delO]
  ·simp only [getO, beq_ne e, cond_false] at h
   simp only [delO, beq_ne e, cond_false, List.map_cons]
   exact ((del_perm h).cons x).trans (.swap X x _)
theorem pw_set {R : Own → Own → Prop} (hs : ∀ {x y}, R x y → R y x) {x : Own} : ∀ {l : List Own} {i : Nat}, (x :: l).Pairwise R → (l.set i x).Pairwise R
 | [], _, _ => by simp
 | y :: l, 0, h => by
  simp only [List.set_cons_zero, List.pairwise_cons] at *
  exact ⟨fun z hz => h.1 z (List.mem_cons_of_mem _ hz), h.2.2⟩
 | y :: l, i + 1, h => by
  simp only [List.set_cons_succ, List.pairwise_cons] at *
  refine ⟨fun z hz => ?_, pw_set hs (List.pairwise_cons.2 ⟨fun z hz => h.1 z (List.mem_cons_of_mem _ hz), h.2.2⟩)⟩
  rcases List.mem_or_eq_of_mem_set hz with h1 | rfl
  ·exact h.2.1 z h1
  ·exact hs (h.1 y List.mem_cons_self)
theorem grp_map {α : Type} {el : TypeId} {size : Nat} {enc : α → List Value} : ∀ {az : List Adr} {g : List (List α)} {i j : Nat} {ad : Option Addr} {cap : Nat} {l : List α}, (grp el size enc i (az.set j (ad, cap)) (g.set j l)).map (·.2) = ((grp el size enc i az g).map (·.2)).set j (.list ad cap el size enc l)
 | [], _, _, _, _, _, _ => by simp [grp]
 | _ :: _, [], _, _, _, _, _ => by simp [grp]
 | a :: az, y :: g, i, 0, ad, cap, l => by simp [grp]
 | a :: az, y :: g, i, j + 1, ad, cap, l => by
  have := grp_map (az := az) (g := g) (i := i + 1) (j := j) (ad := ad) (cap := cap) (l := l) (el := el) (size := size) (enc := enc)
  simp only [List.set_cons_succ, grp, List.map_cons, this]
section
variable {α : Type} {x : Fr} {Hs : List Hp} {σ : Owns} {L : Env} {N : Cont} {el : TypeId} {size : Nat} {enc : α → List Value} {az : List Adr} {g : List (List α)}
theorem TG.eq {σ' : Owns} (e : σ = σ') (h : TG x Hs σ' L N) : TG x Hs σ L N := e ▸ h
theorem TG.absorb (A : Owns) {B : Owns} (t : Nat) {b j : Nat} {ad : Option Addr} {cap : Nat} {l : List α} (ht : getO A t = some (.list ad cap el size enc l)) (hB : delO A t = B) (h : TG x Hs (B ++ grp el size enc b (az.set j (ad, cap)) (g.set j l)) L N) : TG x Hs (A ++ grp el size enc b az g) L N := by
 subst hB
 intro a w hS hA
 refine h a w (hS.re ?_ ?_) hA
 ·intro i z hz
  left
  rcases List.mem_append.1 hz with h1 | h1
  ·exact ⟨i, List.mem_append_left _ (delO_sub h1)⟩
  ·have h2 : z ∈ (grp el size enc b (az.set j (ad, cap)) (g.set j l)).map (·.2) := List.mem_map.2 ⟨_, h1, rfl⟩
   rw [grp_map] at h2
   rcases List.mem_or_eq_of_mem_set h2 with h3 | rfl
   ·obtain ⟨⟨k, z'⟩, h4, rfl⟩ := List.mem_map.1 h3
    exact ⟨k, List.mem_append_right _ h4⟩
   ·exact ⟨t, List.mem_append_left _ (getO_mem ht)⟩
 ·have ha := Apart_iff.1 hS.apart
  rw [Apart_iff]
  rw [List.map_append] at ha ⊢
  have hp := (del_perm ht).append_right ((grp el size enc b az g).map (·.2))
  have ha2 := (hp.pairwise_iff (R := apart) (fun h => apart_comm h)).1 ha
  rw [List.cons_append] at ha2
  have := pw_set (R := apart) (fun h => apart_comm h) (i := ((delO A t).map (·.2)).length + j) ha2
  rw [List.set_append_right _ _ (by omega), Nat.add_sub_cancel_left] at this
  rw [grp_map]
  exact this
theorem TG.gopen (el : TypeId) (size : Nat) (enc : α → List Value) (b n : Nat) (h : TG x Hs (σ ++ grp el size enc b (List.replicate n (none, 0)) (List.replicate n [])) L N) : TG x Hs σ L N := by
 have hall : ∀ (n b i : Nat) (z : Own), (i, z) ∈ grp el size enc b (List.replicate n (none, 0)) (List.replicate n []) → z = .row none 0 el size 0 [] := by
  intro n
  induction n with
  | zero => intro b i z h; simp [grp] at h
  | succ n ih =>
   intro b i z h
   simp only [List.replicate_succ, grp, List.mem_cons, Prod.mk.injEq] at h
   rcases h with ⟨_, rfl⟩ | h
   ·rfl
   ·exact ih _ _ _ h
 intro a w hS hA
 refine h a w (hS.re ?_ ?_) hA
 ·intro i z hz
  rcases List.mem_append.1 hz with h1 | h1
  ·exact .inl ⟨i, h1⟩
  ·exact .inr ⟨el, size, hall _ _ _ _ h1⟩
 ·rw [Apart_iff, List.map_append, List.pairwise_append]
  refine ⟨Apart_iff.1 hS.apart, ?_, ?_⟩
  ·refine List.Pairwise.imp_of_mem (R := fun _ _ => True) (fun {u v} hu hv _ => ?_) (List.pairwise_of_forall fun _ _ => trivial)
   obtain ⟨⟨i, z⟩, h1, rfl⟩ := List.mem_map.1 hu
   rw [hall _ _ _ _ h1]; exact apart_nil _ _ _
  ·intro u hu v hv
   obtain ⟨⟨i, z⟩, h1, rfl⟩ := List.mem_map.1 hv
   rw [hall _ _ _ _ h1]; exact apart_comm (apart_nil _ _ _)
end
section
variable {P : Program} {r : Option Nat} {n : Cont} {p : List PanicEntry → Cont} {ops : Array Oper} {rest : List Oper} {d : Nat} {ty : TypeId} {pos : String} {af : Array Edge} {x : Fr} {Hs : List Hp} {σ : Owns} {L : Env}
end
end Pk
namespace Pk
open Go
section
variable {α σ ε τ : Type}
def goL (g : Nat → α → σ → σ ⊕ ε) (out : σ → ε) : List α → Nat → σ → ε
 | [], _, a => out a
 | x :: l, i, a => match g i x a with
  | .inl a' => goL g out l (i + 1) a'
  | .inr e => e
theorem goL_nil (g : Nat → α → σ → σ ⊕ ε) (out : σ → ε) (i : Nat) (a : σ) : goL g out [] i a = out a := rfl
theorem goL_cons (g : Nat → α → σ → σ ⊕ ε) (out : σ → ε) (x : α) (l : List α) (i : Nat) (a : σ) : goL g out (x :: l) i a = (match g i x a with | .inl a' => goL g out l (i + 1) a' | .inr e => e) := rfl
theorem loop_l (l : List α) (g : Nat → α → σ → σ ⊕ ε) (out : σ → ε) (I : Nat → σ → Prop) {step : Nat × σ → Option ((Nat × σ) ⊕ ε)}
  (hs : ∀ i x a, i < l.length → l[i]? = some x → I i a → step (i, a) = some (match g i x a with | .inl a' => .inl (i + 1, a') | .inr e => .inr e))
  (hI : ∀ i x a a', i < l.length → l[i]? = some x → I i a → g i x a = .inl a' → I (i + 1) a')
  (he : ∀ a, I l.length a → step (l.length, a) = some (.inr (out a))) {a0 : σ} (h0 : I 0 a0) : loopO step (0, a0) = some (goL g out l 0 a0) := by
 have key : ∀ k i a, l.length - i = k → i ≤ l.length → I i a → loopO step (i, a) = some (goL g out (l.drop i) i a) := by
  intro k
  induction k with
  | zero =>
   intro i a hk hi hIa
   obtain rfl : i = l.length := by omega
   rw [loopO_out (he a hIa), List.drop_length, goL_nil]
  | succ k ih =>
   intro i a hk hi hIa
   have hlt : i < l.length := by omega
   have hx : l[i]? = some l[i] := List.getElem?_eq_getElem hlt
   rw [List.drop_eq_getElem_cons hlt, goL_cons]
   have h1 := hs i _ a hlt hx hIa
   cases hg : g i l[i] a with
   | inl a' =>
    rw [hg] at h1
    rw [loopO_next h1, ih (i + 1) a' (by omega) (by omega) (hI i _ a a' hlt hx hIa hg)]
   | inr e =>
    rw [hg] at h1
    rw [loopO_out h1]
 have := key l.length 0 a0 (by omega) (by omega) h0
 simpa using this
def goN (g : Nat → α → Option ε) (out : ε) : List α → Nat → ε
 | [], _ => out
 | x :: l, i => match g i x with
  | none => goN g out l (i + 1)
  | some e => e
theorem loop_n (l : List α) (g : Nat → α → Option ε) (out : ε) {step : Nat → Option (Nat ⊕ ε)}
  (hs : ∀ i x, i < l.length → l[i]? = some x → step i = some (match g i x with | none => .inl (i + 1) | some e => .inr e))
  (he : step l.length = some (.inr out)) : loopO step 0 = some (goN g out l 0) := by
 have key : ∀ k i, l.length - i = k → i ≤ l.length → loopO step i = some (goN g out (l.drop i) i) := by
  intro k
  induction k with
  | zero =>
   intro i hk hi
   obtain rfl : i = l.length := by omega
   rw [loopO_out he, List.drop_length]; rfl
  | succ k ih =>
   intro i hk hi
   have hlt : i < l.length := by omega
   have hx : l[i]? = some l[i] := List.getElem?_eq_getElem hlt
   rw [List.drop_eq_getElem_cons hlt]
   have h1 := hs i _ hlt hx
   simp only [goN]
   cases hg : g i l[i] with
   | none => rw [hg] at h1; rw [loopO_next h1, ih (i + 1) (by omega) (by omega)]
   | some e => rw [hg] at h1; rw [loopO_out h1]
 have := key l.length 0 (by omega) (by omega)
 simpa using this
theorem goN_all (p : α → Bool) (e out : ε) : ∀ (l : List α) (i : Nat), goN (fun _ x => if p x then none else some e) out l i = if l.all p then out else e
 | [], _ => rfl
 | x :: l, i => by
  have ih := goN_all p e out l (i + 1)
  simp only [goN, List.all_cons] at ih ⊢
  by_cases h : p x = true
  ·simp only [h, if_true, ih, Bool.true_and]
  ·simp [h]
theorem goN_find (g : α → Option ε) (out : ε) : ∀ (l : List α) (i : Nat), goN (fun _ x => g x) out l i = (l.findSome? g).getD out
 | [], _ => rfl
 | x :: l, i => by
  simp only [goN, List.findSome?_cons]
  cases h : g x
  ·simp [goN_find g out l (i + 1)]
  ·simp
theorem goL_fold (f : σ → α → σ) (out : σ → ε) : ∀ (l : List α) (i : Nat) (a : σ), goL (fun _ x a => .inl (f a x)) out l i a = out (l.foldl f a)
 | [], _, _ => rfl
 | x :: l, i, a => by simp only [goL, List.foldl_cons]; exact goL_fold f out l (i + 1) (f a x)
theorem loop_all (l : List α) (p : α → Bool) (e out : ε) {step : Nat → Option (Nat ⊕ ε)}
  (hs : ∀ i x, i < l.length → l[i]? = some x → step i = some (if p x then .inl (i + 1) else .inr e)) (he : step l.length = some (.inr out)) : loopO step 0 = some (if l.all p then out else e) := by
 rw [loop_n l (fun _ x => if p x then none else some e) out (fun i x hi hx => by rw [hs i x hi hx]; cases p x <;> simp) he, goN_all]
theorem loop_fold (l : List α) (f : σ → α → σ) (out : σ → ε) (I : Nat → σ → Prop) {step : Nat × σ → Option ((Nat × σ) ⊕ ε)}
  (hs : ∀ i x a, i < l.length → l[i]? = some x → I i a → step (i, a) = some (.inl (i + 1, f a x)))
  (hI : ∀ i x a, i < l.length → l[i]? = some x → I i a → I (i + 1) (f a x))
  (he : ∀ a, I l.length a → step (l.length, a) = some (.inr (out a))) {a0 : σ} (h0 : I 0 a0) : loopO step (0, a0) = some (out (l.foldl f a0)) := by
 rw [loop_l l (fun _ x a => .inl (f a x)) out I (fun i x a hi hx h => hs i x a hi hx h) (fun i x a a' hi hx h e => by cases e; exact hI i x a hi hx h) he h0, goL_fold]
theorem foldl_snoc (f : α → τ) : ∀ (l : List α) (a : List τ), l.foldl (fun a x => a ++ [f x]) a = a ++ l.map f
 | [], a => by simp
 | x :: l, a => by simp [foldl_snoc f l]
theorem goL_check (p : α → Bool) (f : σ → α → σ) (out : σ → ε) (e : ε) : ∀ (l : List α) (i : Nat) (a : σ), goL (fun _ x a => if p x then .inl (f a x) else .inr e) out l i a = if l.all p then out (l.foldl f a) else e
 | [], _, _ => rfl
 | x :: l, i, a => by
  have ih := goL_check p f out e l (i + 1) (f a x)
  simp only [goL, List.all_cons, List.foldl_cons]
  by_cases h : p x = true
  ·simp only [h, if_true, ih, Bool.true_and]
  ·simp [h]
theorem goN_nodup (g : Nat → α → Option ε) (e out : ε) : ∀ (l pre : List α) [Decidable (pre ++ l).Nodup], (∀ i x, x ∈ (pre ++ l).take i → g i x = some e) → (∀ i x, x ∉ (pre ++ l).take i → g i x = none) → pre.Nodup → goN g out l pre.length = if (pre ++ l).Nodup then out else e
 | [], pre, _, _, _, h => by simp only [goN]; rw [if_pos (by simpa using h)]
 | x :: l, pre, _, h1, h2, h => by
  have ht : (pre ++ x :: l).take pre.length = pre := by simp
  simp only [goN]
  by_cases hx : x ∈ pre
  ·have : ¬ (pre ++ x :: l).Nodup := by
    intro hn
    rw [List.nodup_append] at hn
    exact hn.2.2 x hx x List.mem_cons_self rfl
   rw [h1 _ x (by rw [ht]; exact hx), if_neg this]
  ·have hp : (pre ++ [x]).Nodup := by
    rw [List.nodup_append]
    exact ⟨h, by simp, fun a ha b hb => by simp at hb; subst hb; rintro rfl; exact hx ha⟩
   have e1 : (pre ++ [x]) ++ l = pre ++ x :: l := by simp
   have : Decidable ((pre ++ [x]) ++ l).Nodup := by rw [e1]; infer_instance
   have ih := goN_nodup g e out l (pre ++ [x]) (by rw [e1]; exact h1) (by rw [e1]; exact h2) hp
   rw [h2 _ x (by rw [ht]; exact hx)]
   simp only [List.length_append, List.length_singleton] at ih
   rw [ih]
   by_cases hn : (pre ++ x :: l).Nodup
   ·rw [if_pos hn, if_pos (by rw [e1]; exact hn)]
   ·rw [if_neg hn, if_neg (by rw [e1]; exact hn)]
theorem loop_map (l : List α) (F : α → τ) (out : List τ → ε) {step : Nat × List τ → Option ((Nat × List τ) ⊕ ε)}
  (hs : ∀ i x a, i < l.length → l[i]? = some x → a.length = i → step (i, a) = some (.inl (i + 1, a ++ [F x])))
  (he : ∀ a, step (l.length, a) = some (.inr (out a))) : loopO step (0, []) = some (out (l.map F)) := by
 rw [loop_fold l (fun a x => a ++ [F x]) out (fun i a => a.length = i) hs (fun i x a _ _ h => by simp [h]) (fun a _ => he a) rfl, foldl_snoc]
 rfl
theorem loop_allK (l : List α) (k : Nat) (p : α → Bool) (e out : ε) {step : Nat → Option (Nat ⊕ ε)}
  (hs : ∀ i x, i < l.length → i < k → l[i]? = some x → step i = some (if p x then .inl (i + 1) else .inr e)) (he : ∀ i, ¬ (i < l.length ∧ i < k) → step i = some (.inr out)) : loopO step 0 = some (if (l.take k).all p then out else e) := by
 refine loop_all (l.take k) p e out (fun i x hi hx => ?_) (he _ (by rw [List.length_take]; omega))
 rw [List.length_take] at hi
 exact hs i x (by omega) (by omega) (by rw [List.getElem?_take_of_lt (by omega)] at hx; exact hx)
theorem chk_t {p : Prop} (h : p) (x : Option α) : chk p x = x := chk_pos h x
theorem lt_len {l : List α} {i : Nat} {x : α} (h : l[i]? = some x) : i < l.length := (List.getElem?_eq_some_iff.1 h).1
theorem bd_self (x : Option α) : (x.bind fun r => some r) = x := by cases x <;> rfl
end
end Pk
namespace Pk
open Go
section
variable {α β : Type}
noncomputable def stIdx (l : List α) (f : α → Option Bool) (s : Nat) : Option (Nat ⊕ (Unit ⊕ Int)) :=
 if (s : Int) < (l.length : Int) then (l[s]?).bind fun x => (f x).bind fun r => if r then some (.inr (.inr (s : Int))) else some (.inl (s + 1)) else some (.inr (.inl ()))
noncomputable def gIdx (l : List α) (f : α → Option Bool) : Option Int := (loopO (stIdx l f) 0).bind fun e => match e with
 | .inr z => some z
 | .inl _ => some (-1)
noncomputable def gHas (l : List α) (f : α → Option Bool) : Option Bool := (gIdx l f).bind fun r => some (decide (0 ≤ r))
noncomputable def gAll (l : List α) (f : α → Option Bool) : Option Bool := (gHas l (fun x => (f x).bind fun r => some (!r))).bind fun r => some (!r)
theorem goN_idx (p : α → Bool) : ∀ (l : List α) (i : Nat), goN (ε := Unit ⊕ Int) (fun j x => if p x then some (.inr (j : Int)) else none) (.inl ()) l i = if l.any p then .inr ((i : Int) + (l.findIdx p : Nat)) else .inl ()
 | [], _ => rfl
 | x :: l, i => by
  have ih := goN_idx p l (i + 1)
  simp only [goN]
  by_cases h : p x = true
  ·simp [h, List.findIdx_cons]
  ·simp only [h, if_false, ih, List.any_cons, List.findIdx_cons, Bool.false_eq_true]
   simp only [Bool.not_eq_true] at h
   simp only [Bool.false_or, cond_false]
   by_cases h2 : l.any p = true
   ·simp only [h2, if_true]; congr 1; omega
   ·simp [h2]
theorem gIdx_some {l : List α} {f : α → Option Bool} (p : α → Bool) (h : ∀ x ∈ l, f x = some (p x)) : gIdx l f = some (if l.any p then ((l.findIdx p : Nat) : Int) else -1) := by
 unfold gIdx
 have hl : loopO (stIdx l f) 0 = some (goN (ε := Unit ⊕ Int) (fun j x => if p x then some (.inr (j : Int)) else none) (.inl ()) l 0) := by
  refine loop_n (ε := Unit ⊕ Int) l (fun j x => if p x then some (.inr (j : Int)) else none) (.inl ()) (fun i x hi hx => ?_) ?_
  ·unfold stIdx
   rw [if_pos (by omega), hx, Option.bind_some, h x (List.mem_of_getElem? hx)]
   cases p x <;> rfl
  ·unfold stIdx; simp
 rw [hl, goN_idx]
 by_cases h : l.any p = true
 ·simp only [h, if_true, Option.bind_some]; congr 1; omega
 ·simp [h]
theorem gHas_some {l : List α} {f : α → Option Bool} (p : α → Bool) (h : ∀ x ∈ l, f x = some (p x)) : gHas l f = some (l.any p) := by
 unfold gHas
 rw [gIdx_some p h]
 by_cases h2 : l.any p = true
 ·simp only [h2, if_true, Option.bind_some]; simp
 ·simp only [h2]; simp
theorem gAll_some {l : List α} {f : α → Option Bool} (p : α → Bool) (h : ∀ x ∈ l, f x = some (p x)) : gAll l f = some (l.all p) := by
 unfold gAll
 rw [gHas_some (fun x => !p x) (fun x hx => by rw [h x hx]; rfl), Option.bind_some]
 congr 1
 induction l with
 | nil => rfl
 | cons x l ih => simp only [List.any_cons, List.all_cons, Bool.not_or, Bool.not_not]; rw [ih (fun y hy => h y (List.mem_cons_of_mem _ hy))]
noncomputable def stIx [DecidableEq α] (l : List α) (v : α) (s : Nat) : Option (Nat ⊕ (Unit ⊕ Int)) :=
 if (s : Int) < (l.length : Int) then (l[s]?).bind fun x => if v = x then some (.inr (.inr (s : Int))) else some (.inl (s + 1)) else some (.inr (.inl ()))
noncomputable def gIx [DecidableEq α] (l : List α) (v : α) : Option Int := (loopO (stIx l v) 0).bind fun e => match e with
 | .inr z => some z
 | .inl _ => some (-1)
noncomputable def gCon [DecidableEq α] (l : List α) (v : α) : Option Bool := (gIx l v).bind fun r => some (decide (0 ≤ r))
theorem gIx_some [DecidableEq α] (l : List α) (v : α) : gIx l v = some (if v ∈ l then ((l.findIdx (fun x => decide (v = x)) : Nat) : Int) else -1) := by
 unfold gIx
 have hl : loopO (stIx l v) 0 = some (goN (ε := Unit ⊕ Int) (fun j x => if decide (v = x) then some (.inr (j : Int)) else none) (.inl ()) l 0) := by
  refine loop_n (ε := Unit ⊕ Int) l (fun j x => if decide (v = x) then some (.inr (j : Int)) else none) (.inl ()) (fun i x hi hx => ?_) ?_
  ·unfold stIx
   rw [if_pos (by omega), hx, Option.bind_some]
   by_cases h : v = x <;> simp [h]
  ·unfold stIx; simp
 rw [hl, goN_idx]
 have : l.any (fun x => decide (v = x)) = decide (v ∈ l) := by
  rw [Bool.eq_iff_iff]; simp
 rw [this]
 by_cases h : v ∈ l <;> simp [h]
theorem gCon_some [DecidableEq α] (l : List α) (v : α) : gCon l v = some (decide (v ∈ l)) := by
 unfold gCon
 rw [gIx_some]
 by_cases h : v ∈ l <;> simp [h]
noncomputable def stEq (a : List α) (b : List β) (f : α → β → Option Bool) (s : Nat) : Option (Nat ⊕ (Unit ⊕ Bool)) :=
 if (s : Int) < (a.length : Int) then (a[s]?).bind fun x => (b[s]?).bind fun y => (f x y).bind fun r => if r then some (.inl (s + 1)) else some (.inr (.inr false)) else some (.inr (.inl ()))
noncomputable def gEqF (a : List α) (b : List β) (f : α → β → Option Bool) : Option Bool :=
 if (a.length : Int) ≠ (b.length : Int) then some false else (loopO (stEq a b f) 0).bind fun e => match e with
 | .inr z => some z
 | .inl _ => some true
def eqF (p : α → β → Bool) : List α → List β → Bool
 | [], [] => true
 | x :: a, y :: b => p x y && eqF p a b
 | _, _ => false
theorem eqF_zip (p : α → β → Bool) : ∀ (a : List α) (b : List β), a.length = b.length → eqF p a b = (a.zip b).all (fun q => p q.1 q.2)
 | [], [], _ => rfl
 | x :: a, y :: b, h => by simp only [eqF, List.zip_cons_cons, List.all_cons]; rw [eqF_zip p a b (by simpa using h)]
 | [], y :: b, h => by simp at h
 | x :: a, [], h => by simp at h
theorem eqF_len (p : α → β → Bool) : ∀ (a : List α) (b : List β), eqF p a b = true → a.length = b.length
 | [], [], _ => rfl
 | x :: a, y :: b, h => by simp only [eqF, Bool.and_eq_true] at h; simp [eqF_len p a b h.2]
 | [], y :: b, h => by simp [eqF] at h
 | x :: a, [], h => by simp [eqF] at h
theorem gEqF_some {a : List α} {b : List β} {f : α → β → Option Bool} (p : α → β → Bool) (h : ∀ x ∈ a, ∀ y ∈ b, f x y = some (p x y)) : gEqF a b f = some (eqF p a b) := by
 unfold gEqF
 by_cases hl : a.length = b.length
 ·rw [if_neg (by omega)]
  have h1 : loopO (stEq a b f) 0 = some (if (a.zip b).all (fun q => p q.1 q.2) then .inl () else .inr false) := by
   refine loop_all (a.zip b) _ _ _ (fun i x hi hx => ?_) ?_
   ·rw [List.length_zip] at hi
    rw [List.getElem?_zip_eq_some] at hx
    unfold stEq
    rw [if_pos (by omega), hx.1, Option.bind_some, hx.2, Option.bind_some, h _ (List.mem_of_getElem? hx.1) _ (List.mem_of_getElem? hx.2)]
    cases p x.1 x.2 <;> rfl
   ·rw [List.length_zip]; unfold stEq; rw [if_neg (by omega)]
  rw [h1, eqF_zip p a b hl]
  by_cases e : (a.zip b).all (fun q => p q.1 q.2) = true <;> simp [e]
 ·rw [if_pos (by omega)]
  have : eqF p a b = false := by
   rw [← Bool.not_eq_true]; exact fun e => hl (eqF_len p a b e)
  rw [this]
noncomputable def stSame [DecidableEq α] (a b : List α) (s : Nat) : Option (Nat ⊕ (Unit ⊕ Bool)) :=
 if (s : Int) < (a.length : Int) then (a[s]?).bind fun x => (b[s]?).bind fun y => if x ≠ y then some (.inr (.inr false)) else some (.inl (s + 1)) else some (.inr (.inl ()))
noncomputable def gSame [DecidableEq α] (a b : List α) : Option Bool :=
 if (a.length : Int) ≠ (b.length : Int) then some false else (loopO (stSame a b) 0).bind fun e => match e with
 | .inr z => some z
 | .inl _ => some true
theorem eqF_eq [DecidableEq α] : ∀ (a b : List α), eqF (fun x y => decide (x = y)) a b = decide (a = b)
 | [], [] => rfl
 | x :: a, y :: b => by simp only [eqF, eqF_eq a b, List.cons.injEq]; by_cases h : x = y <;> simp [h]
 | [], y :: b => rfl
 | x :: a, [] => rfl
theorem gSame_some [DecidableEq α] (a b : List α) : gSame a b = some (decide (a = b)) := by
 have h : gSame a b = gEqF a b (fun x y => some (decide (x = y))) := by
  unfold gSame gEqF
  have : stSame a b = stEq a b (fun x y => some (decide (x = y))) := by
   funext s
   unfold stSame stEq
   split
   ·cases a[s]? with
    | none => rfl
    | some x =>
     cases b[s]? with
     | none => rfl
     | some y => by_cases e : x = y <;> simp [e]
   ·rfl
  rw [this]
 rw [h, gEqF_some (fun x y => decide (x = y)) (fun _ _ _ _ => rfl), eqF_eq]
end
end Pk
namespace Pk
open Go Go.Lib
def isd (c : UInt8) : Bool := decide (48 ≤ c.toNat ∧ c.toNat ≤ 57)
def valN (l : Bytes) (a : Nat) : Nat := l.foldl (fun a c => 10 * a + (c.toNat - 48)) a
theorem valN_append (l m : Bytes) (a : Nat) : valN (l ++ m) a = valN m (valN l a) := by simp [valN]
theorem decFrom_eq : ∀ (l : Bytes) (a : Nat), decFrom a l = if l.all isd then some (valN l a) else none
 | [], a => rfl
 | c :: l, a => by
  have ih := fun b => decFrom_eq l b
  simp only [decFrom, List.all_cons, valN, List.foldl_cons] at ih ⊢
  unfold digitVal
  by_cases h : isd c = true
  ·have h' := h
   simp only [isd, decide_eq_true_eq] at h'
   simp only [h', and_self, if_true, h, Bool.true_and]
   rw [show a * 10 + (c.toNat - 48) = 10 * a + (c.toNat - 48) by omega]
   exact ih _
  ·have h' := h
   simp only [isd, decide_eq_true_eq] at h'
   simp [h', h]
theorem u8_of {n : Nat} (h : n < 256) : (UInt8.ofNat n).toNat = n := by simp; omega
theorem isd_of {n : Nat} (h : n < 10) : isd (UInt8.ofNat (48 + n)) = true := by
 unfold isd; rw [u8_of (by omega)]; simp; omega
theorem dec_all (u : Nat) : (decDigits u).all isd = true := by
 induction u using Nat.strongRecOn with
 | _ u ih =>
  rw [decDigits]
  split
  ·simp only [List.all_cons, List.all_nil, Bool.and_true]; exact isd_of ‹_›
  ·rw [List.all_append, ih (u / 10) (by omega)]; simp only [List.all_cons, List.all_nil, Bool.and_true, Bool.true_and]; exact isd_of (show u % 10 < 10 by omega)
theorem dec_val (u : Nat) : valN (decDigits u) 0 = u := by
 induction u using Nat.strongRecOn with
 | _ u ih =>
  rw [decDigits]
  split
  ·simp only [valN, List.foldl_cons, List.foldl_nil]; rw [u8_of (by omega)]; omega
  ·rw [valN_append, ih (u / 10) (by omega)]
   simp only [valN, List.foldl_cons, List.foldl_nil]; rw [u8_of (by omega)]; omega
theorem dec_ne (u : Nat) : decDigits u ≠ [] := by
 rw [decDigits]; split <;> simp
theorem dec_len {u k : Nat} (h : u < 10 ^ k) (hk : 1 ≤ k) : (decDigits u).length ≤ k := by
 induction k generalizing u with
 | zero => omega
 | succ k ih =>
  rw [decDigits]
  split
  ·simp
  ·rw [List.length_append]
   have h1 : u / 10 < 10 ^ k := by rw [Nat.pow_succ] at h; omega
   have hk1 : 1 ≤ k := by
    rcases k with _ | k
    ·simp at h1; omega
    ·omega
   have := ih h1 hk1
   simp; omega
theorem dec_head {u : Nat} (h : 1 ≤ u) : (decDigits u).head? ≠ some 48 := by
 induction u using Nat.strongRecOn with
 | _ u ih =>
  rw [decDigits]
  split
  ·simp only [List.head?_cons, ne_eq, Option.some.injEq]
   intro e
   have := congrArg UInt8.toNat e
   rw [u8_of (by omega)] at this
   have : (48 : UInt8).toNat = 48 := rfl
   omega
  ·rw [List.head?_append]
   have := ih (u / 10) (by omega) (by omega)
   cases hd : (decDigits (u / 10)).head? with
   | none => rw [List.head?_eq_none_iff] at hd; exact absurd hd (dec_ne _)
   | some c => rw [hd] at this; simpa using this
theorem u8_back {c : UInt8} (h : isd c = true) : UInt8.ofNat (48 + (c.toNat - 48)) = c := by
 simp only [isd, decide_eq_true_eq] at h
 apply UInt8.toNat_inj.1
 rw [u8_of (by omega)]; omega
theorem valN_lt : ∀ (l : Bytes) (a : Nat), l.all isd = true → valN l a < (a + 1) * 10 ^ l.length
 | [], a, _ => by simp [valN]
 | c :: l, a, h => by
  simp only [List.all_cons, Bool.and_eq_true] at h
  have ih := valN_lt l (10 * a + (c.toNat - 48)) h.2
  have hc := h.1
  simp only [isd, decide_eq_true_eq] at hc
  have : valN (c :: l) a = valN l (10 * a + (c.toNat - 48)) := rfl
  rw [this, List.length_cons, Nat.pow_succ]
  refine Nat.lt_of_lt_of_le ih ?_
  rw [Nat.mul_comm (10 ^ l.length) 10, ← Nat.mul_assoc]
  exact Nat.mul_le_mul_right _ (by omega)
theorem dec_back (l : Bytes) (h0 : l ≠ []) (h : l.all isd = true) (hh : l.head? ≠ some 48) : decDigits (valN l 0) = l ∧ 1 ≤ valN l 0 := by
 have key : ∀ (n : Nat) (l : Bytes), l.length = n → l ≠ [] → l.all isd = true → l.head? ≠ some 48 → decDigits (valN l 0) = l ∧ 1 ≤ valN l 0 := by
  intro n
  induction n with
  | zero => intro l hn h0; exact absurd (List.length_eq_zero_iff.1 hn) h0
  | succ n ih =>
   intro l hn h0 h hh
   obtain ⟨m, c, rfl⟩ : ∃ m c, l = m ++ [c] := ⟨l.dropLast, l.getLast h0, (List.dropLast_concat_getLast h0).symm⟩
   rw [List.all_append, Bool.and_eq_true] at h
   have hc : isd c = true := by simpa using h.2
   have hc' := hc
   simp only [isd, decide_eq_true_eq] at hc'
   have hv : valN (m ++ [c]) 0 = 10 * valN m 0 + (c.toNat - 48) := by rw [valN_append]; rfl
   rw [hv]
   by_cases hm : m = []
   ·subst hm
    have hne : c ≠ 48 := by simpa using hh
    have hne' : c.toNat ≠ 48 := fun e => hne (UInt8.toNat_inj.1 (by rw [e]; rfl))
    simp only [valN, List.foldl_nil, Nat.mul_zero, Nat.zero_add]
    refine ⟨?_, by omega⟩
    rw [decDigits, dif_pos (by omega), u8_back hc]; rfl
   ·have hmh : m.head? ≠ some 48 := by
     cases m with
     | nil => exact absurd rfl hm
     | cons x m => simpa using hh
    obtain ⟨h1, h2⟩ := ih m (by simp at hn; omega) hm h.1 hmh
    refine ⟨?_, by omega⟩
    rw [decDigits, dif_neg (by omega)]
    rw [show (10 * valN m 0 + (c.toNat - 48)) / 10 = valN m 0 by omega, show (10 * valN m 0 + (c.toNat - 48)) % 10 = c.toNat - 48 by omega, h1, u8_back hc]
 exact key l.length l rfl h0 h hh
theorem atoi_dec {u : Nat} (h : u < 10 ^ 18) : atoiAll (decDigits u) = .ok (u : Int) := by
 rw [atoiAll_short _ (dec_len h (by decide))]
 have ha := dec_all u
 have hv := dec_val u
 cases hd : decDigits u with
 | nil => exact absurd hd (dec_ne u)
 | cons c r =>
  rw [hd] at ha hv
  have hc : isd c = true := by simp only [List.all_cons, Bool.and_eq_true] at ha; exact ha.1
  simp only [isd, decide_eq_true_eq] at hc
  have h45 : (c == 45) = false := by
   rw [beq_eq_false_iff_ne]; rintro rfl; simp at hc
  have h43 : (c == 43) = false := by
   rw [beq_eq_false_iff_ne]; rintro rfl; simp at hc
  simp only [atoi, h45, h43, decNat, List.isEmpty_cons, decFrom_eq, ha, hv]
  rfl
end Pk
namespace Pk
open Go
end Pk
