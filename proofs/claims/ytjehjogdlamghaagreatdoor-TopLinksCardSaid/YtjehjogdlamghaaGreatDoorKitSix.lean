/-
  The kit, third text: ranges over functions, errors, arguments; plain lemmas on models.
-/
import Derived.Test.YtjehjogdlamghaaGreatDoorKitTwo
import Derived.RangeFuncLeaves
import Derived.RangeFuncRecord
import Derived.RangeFuncOwn
import Derived.RangeFuncNested
import Derived.WideLaws
import Derived.Shelf.Strconv.AtoiAll
import Derived.Shelf.Strconv.Itoa3
import Derived.Carry
import Derived.ProofKit
import Derived.LaidMore
import Derived.OpenShut
import Derived.Stop.Joined
import Derived.Shelf.SlSortCmp.NoneTotal
import Derived.Shelf.Vars
import Derived.Lib.AppendZeros
import Derived.SizedLaws
import Derived.Laws.BytesArg
import Derived.Lib.SlicesCompact
set_option linter.all false
namespace Pk
open Go
section
variable {P : Program} {r : Option Nat} {n rt : Cont} {e : List (Nat × Cont)} {p : List PanicEntry → Cont} {x : Fr} {Hs : List Hp} {σ : Owns} {L : Env} {N : Cont}
def RtD (P : Program) (fn : Func) (R : Ending → World → Prop) (D : List Deferred) : Cont := fun a w => LeavesInM (FW none) 0 P fn a.tmps R D .returning w
def RtM (P : Program) (fn : Func) (R : Ending → World → Prop) : Cont := fun a w => LeavesInM (FW none) 0 P fn a.tmps R a.defers .returning w
abbrev mk1 (b : Nat) : Deferred := { target := .collected b, args := #[] }
theorem enterM {f : FuncId} {fn : Func} {c : Code} {nt : Nat} {w : World} {R : Ending → World → Prop} {l : List Value} (hf : P.funcs[f]? = some fn) (hb : fn.body = some c) (hn : fn.ntmps = nt) (hl : Nat.ble l.length nt = true)
  (h : ∀ a, Has [] nt a (envOf 0 l) → W P none c (RtM P fn R) (RtM P fn R) [] (fun _ _ _ => False) a w) : Calls P f l.toArray w R := by
 have hl' : l.length ≤ nt := by simpa using hl
 have h1 := h { tmps := l.toArray ++ Array.replicate (fn.ntmps - l.toArray.size) undef, defers := [] } ⟨rfl, by simp [hn]; omega, fun i v hi => by
  obtain ⟨_, h2⟩ := lk_envOf l 0 i v hi
  simp only [Nat.sub_zero] at h2
  have hlt : i < l.length := (List.getElem?_eq_some_iff.1 h2).1
  rw [Array.getElem?_append_left (by simpa using hlt)]
  simpa using h2⟩
 refine (callsIn_wide (n := 0)).1 (callsIn_of_wp_marks hf hb trivial ?_)
 refine wpIn_mono h1 ?_
 intro z a w hz
 cases z with
 | normal => exact hz
 | ret => exact hz
 | panic ch => exact hz.elim
 | exit id => obtain ⟨K, hK, _⟩ := hz; simp [lkE] at hK
 | goto l => exact hz
 | outgrown => exact hz.elim
theorem enterGM {M : Prop} {f : FuncId} {fn : Func} {c : Code} {nt : Nat} {w : World} {R : Ending → World → Prop} {l : List Value} (hf : P.funcs[f]? = some fn) (hb : fn.body = some c) (hn : fn.ntmps = nt) (hl : Nat.ble l.length nt = true) {H : Hp} (hH : H.le (hp w))
  (h : TG ⟨[], nt, M, w, H⟩ [H] [] (envOf 0 l) (W P none c (RtM P fn R) (RtM P fn R) [] (fun _ _ _ => False))) : Calls P f l.toArray w R :=
 enterM hf hb hn hl fun a hA => h a w (St.start M w hH) hA
variable {fn : Func} {R : Ending → World → Prop} {D : List Deferred} {k : Nat} {M : Prop} {w0 : World} {H0 : Hp}
theorem rtM (h : TG ⟨D, k, M, w0, H0⟩ Hs σ L (RtD P fn R D)) : TG ⟨D, k, M, w0, H0⟩ Hs σ L (RtM P fn R) := fun a w hS hA => by
 have := h a w hS hA
 unfold RtM; rw [hA.defers]; exact this
theorem St.put {t b : Nat} {o o' : Obj} {w : World} (hS : St M w0 H0 Hs σ w) (hσ : getO σ t = some (.blk b o)) : St M w0 H0 Hs (setO σ t (.blk b o')) (w.putObj b o') := by
 have hb : w.heap[b]? = some o := hS.get hσ
 exact hS.step hσ (y := .blk b o') ⟨grownBy_putObj' w b o', Nat.le_refl _⟩ (World.putObj_heap_same (Array.getElem?_eq_some_iff.1 hb).1) (fun _ h => .inl h)
theorem rtT (t : Nat) {b : Nat} (hσ : getO σ t = some (.blk b (.deferred (some [])))) (h : TG x Hs (setO σ t (.blk b (.deferred none))) L (RtD P fn R D)) : TG x Hs σ L (RtD P fn R (mk1 b :: D)) := fun a w hS hA => by
 have hb : w.heap[b]? = some (.deferred (some [])) := hS.get hσ
 exact ⟨by simp, .inl ⟨b, _, rfl, run_takeDeferred hb, h a _ (St.put hS hσ) hA⟩⟩
theorem rt0 {D' : List Deferred} (h : TG ⟨[], k, M, w0, H0⟩ Hs σ L (Rt P fn R)) : TG ⟨D', k, M, w0, H0⟩ Hs σ L (RtD P fn R []) := fun a w hS hA => by
 obtain ⟨_, v, h1, h2⟩ := h { a with defers := [] } w hS ⟨rfl, hA.size, hA.get⟩
 exact ⟨v, h1, h2⟩
abbrev LR (fn : FuncId) (tm : Array Value) (ps : Array Tmp) (asg body : Code) (dB : Nat) (st : LoopState) (pe : Option Code) : Obj := .loop { state := st, pending := pe, fn := fn, tmps := tm, params := ps, assign := asg, body := body, defers := dB }
def Rec (O : LoopState → Option Code → Obj) (tm : Array Value) (ps : List Tmp) (asg body : Code) : Prop := ∃ fn dB, ∀ s q, O s q = LR fn tm ps.toArray asg body dB s q
def EL (P : Program) (r : Option Nat) (l : Nat) (n rt : Cont) (e : List (Nat × Cont)) (p : List PanicEntry → Cont) : Cont := fun a w => ∃ jump w', (Instr.endLoop l).run P w = .ok jump w' ∧ (match jump with | none => n a w' | some c => W P r c n rt e p a w')
theorem callsFW {f : FuncId} {args : Array Value} {w : World} (h : Calls P f args w R) : CallsIn (FW r) (0 - 1) P f args w R := (callsIn_wide (n := 0)).2 h
theorem rfO {g : Operand} {ps : List Tmp} {asg body : Code} {f : FuncId} {fnc : Func} {cd : Code} {nt : Nat} {cap : List Value} (tl tD : Nat)
  (hcall : ∀ args w, (callFunc f args).run P w = .ok (.enter f args) w) (hfn : P.funcs[f]? = some fnc) (hb : fnc.body = some cd) (hn : fnc.ntmps = nt)
  (hg : ev L g = some (.func (.func f) #[] cap.toArray)) (hl : Nat.ble (cap.length + 1) nt = true) (J : Nat → Nat → (LoopState → Option Code → Obj) → World → Prop)
  (h1 : ∀ l dB O tm, Has [] x.k ⟨tm, []⟩ L → Rec O tm ps asg body → TG ⟨[], nt, x.M, x.w0, x.H0⟩ Hs ((tl, .blk l (O .ready none)) :: (tD, .blk dB (.deferred (some []))) :: σ) (envOf 0 (.func (.yield l) #[] #[] :: cap))
   (W P none cd (Rt P fnc fun e w => ∃ v, e = .returned v ∧ J l dB O w) (Rt P fnc fun e w => ∃ v, e = .returned v ∧ J l dB O w) [] (fun _ _ _ => False)))
  (h2 : ∀ l dB O tm a w, Rec O tm ps asg body → Has (mk1 dB :: x.D) x.k a L → J l dB O w → EL P none l n rt e p a w) : TG x Hs σ L (W P none (.rangeFunc g ps.toArray asg body) n rt e p) := fun a w hS hA => by
 refine wpIn_rangeFunc fun fn _ => ?_
 obtain ⟨O, hO⟩ : ∃ O : LoopState → Option Code → Obj, ∀ s q, O s q = LR fn a.tmps ps.toArray asg body w.heap.size s q := ⟨_, fun _ _ => rfl⟩
 have hR : Rec O a.tmps ps asg body := ⟨fn, _, hO⟩
 obtain ⟨W1, hW1⟩ : ∃ W1, (w.alloc (.deferred (some []))).alloc (O .ready none) = W1 := ⟨_, rfl⟩
 refine ⟨w.heap.size + 1, [mk1 w.heap.size], W1, ⟨.fn (.func f) cap.toArray, #[.func (.yield (w.heap.size + 1)) #[] #[]]⟩, W1, f, (.func (.yield (w.heap.size + 1)) #[] #[] :: cap).toArray, W1, by rw [← hW1, hO]; exact run_enterLoop_outer fn a.tmps ps.toArray asg body, ?_, ?_, ?_, ?_, ?_⟩
 ·simp only [resolve, hA.eval hg]; simp [go_sem, Deferred.ofValue]
 ·intro _ _; trivial
 ·simp [invoke, hcall]
 ·intro h; simp [FW] at h
 ·have hS1 := hS.add (Ext.alloc _ w (.deferred (some []))) tD (x := .blk w.heap.size (.deferred (some []))) (alloc_new w _) (fun b hb => by simp [Own.foot] at hb; omega)
  have hS2 := hS1.add (Ext.alloc _ _ (O .ready none)) tl (x := .blk (w.heap.size + 1) (O .ready none)) (by have := alloc_new (w.alloc (.deferred (some []))) (O .ready none); simpa [Own.holds] using this) (fun b hb => by simp [Own.foot] at hb; simp; omega)
  have hT : Has [] x.k ⟨a.tmps, []⟩ L := ⟨rfl, hA.size, hA.get⟩
  rw [hW1] at hS2
  have hc : Calls P f (.func (.yield (w.heap.size + 1)) #[] #[] :: cap).toArray W1 (fun e' w' => ∃ v, e' = .returned v ∧ J (w.heap.size + 1) w.heap.size O w') :=
   enter hfn hb hn (by simpa using hl) fun a' hA' => W_mono (fun _ _ h => h) (fun _ _ h => h) (fun _ K _ _ hK h => ⟨K, hK, h⟩) (fun _ _ _ h => h.elim) (h1 _ _ O a.tmps hT hR a' _ hS2 hA')
  refine (callsFW hc).mono ?_
  rintro e' w' ⟨v, rfl, hJ⟩
  have hA2 : Has (mk1 w.heap.size :: x.D) x.k { a with defers := [mk1 w.heap.size] ++ a.defers } L := ⟨by simp [hA.defers], hA.size, hA.get⟩
  exact h2 _ _ O a.tmps _ w' hR hA2 hJ
theorem delO_setO : ∀ (σ : Owns) (t : Nat) (y : Own), delO (setO σ t y) t = delO σ t
 | [], _, _ => rfl
 | (i, z) :: σ, t, y => by
  by_cases e : i = t
  ·subst e; simp [setO, delO]
  ·simp only [setO, delO, beq_ne e, cond_false, delO_setO σ t y]
theorem elN (t : Nat) {l : Nat} {O : LoopState → Option Code → Obj} {tm : Array Value} {ps : List Tmp} {asg body : Code} (hO : Rec O tm ps asg body) (hσ : getO σ t = some (.blk l (O .ready none))) (h : TG x Hs (delO σ t) L n) : TG x Hs σ L (EL P r l n rt e p) := fun a w hS hA => by
 have hb : w.heap[l]? = some (O .ready none) := hS.get hσ
 obtain ⟨fn, dB, hO⟩ := hO
 rw [hO] at hb
 exact ⟨_, _, run_endLoop hb (by simp), h a _ (by have := (St.put (o' := LR fn tm ps.toArray asg body dB .exhausted none) hS hσ).del t; rwa [delO_setO] at this) hA⟩
theorem elC (t : Nat) {l : Nat} {O : LoopState → Option Code → Obj} {tm : Array Value} {ps : List Tmp} {asg body : Code} {c : Code} (hO : Rec O tm ps asg body) (hσ : getO σ t = some (.blk l (O .done (some c)))) (h : TG x Hs (delO σ t) L (W P r c n rt e p)) : TG x Hs σ L (EL P r l n rt e p) := fun a w hS hA => by
 have hb : w.heap[l]? = some (O .done (some c)) := hS.get hσ
 obtain ⟨fn, dB, hO⟩ := hO
 rw [hO] at hb
 exact ⟨_, _, run_endLoop hb (by simp), h a _ (by have := (St.put (o' := LR fn tm ps.toArray asg body dB .exhausted (some c)) hS hσ).del t; rwa [delO_setO] at this) hA⟩
def BR (P : Program) (l : Nat) (N : Cont) : Cont := fun a w => ∃ w', (Instr.beginRound l).run P w = .ok () w' ∧ N a w'
def RE (P : Program) (l : Nat) (J : Value → World → Prop) (jump : Option Code) : Cont := fun _ w => ∃ v w', (Instr.endRound l jump).run P w = .ok v w' ∧ J v w'
theorem bR (t : Nat) {l : Nat} {O : LoopState → Option Code → Obj} {tm : Array Value} {ps : List Tmp} {asg body : Code} (hO : Rec O tm ps asg body) (hσ : getO σ t = some (.blk l (O .ready none))) (h : TG x Hs (setO σ t (.blk l (O .busy none))) L N) : TG x Hs σ L (BR P l N) := fun a w hS hA => by
 have hb : w.heap[l]? = some (O .ready none) := hS.get hσ
 obtain ⟨fn, dB, hO⟩ := hO
 rw [hO] at hb
 exact ⟨_, run_beginRound hb rfl, h a _ (by have := St.put (o' := O .busy none) hS hσ; rw [hO] at this ⊢; exact this) hA⟩
theorem eR (t : Nat) {l : Nat} {O : LoopState → Option Code → Obj} {tm : Array Value} {ps : List Tmp} {asg body : Code} {J : Value → World → Prop} (jump : Option Code) (hO : Rec O tm ps asg body) (hσ : getO σ t = some (.blk l (O .busy none)))
  (h : ∀ w, St x.M x.w0 x.H0 Hs (setO σ t (.blk l (O (if jump.isNone then .ready else .done) jump))) w → J (.bool jump.isNone) w) : TG x Hs σ L (RE P l J jump) := fun a w hS hA => by
 have hb : w.heap[l]? = some (O .busy none) := hS.get hσ
 obtain ⟨fn, dB, hO⟩ := hO
 rw [hO] at hb
 exact ⟨_, _, run_endRound jump hb, h _ (by have := St.put (o' := O (if jump.isNone then .ready else .done) jump) hS hσ; rw [hO] at this ⊢; exact this)⟩
theorem has_params {ps : List Tmp} {vs : List Value} {k : Nat} : ∀ {tm : Array Value} {L : Env}, Has [] k ⟨tm, []⟩ L → (ps.all fun t => Nat.blt t k) = true → Has [] k ⟨(ps.zip vs).foldl (fun t (q, v) => t.setIfInBounds q v) tm, []⟩ ((ps.zip vs).reverse ++ L) := by
 intro tm L hT hp
 induction ps generalizing vs tm L with
 | nil => exact hT
 | cons q ps ih =>
  cases vs with
  | nil => exact hT
  | cons v vs =>
   simp only [List.all_cons, Bool.and_eq_true] at hp
   have h1 : Has [] k ⟨tm.setIfInBounds q v, []⟩ ((q, v) :: L) := by have := hT.put (d := q) hp.1 v; simpa [Act.put] using this
   have := ih (vs := vs) h1 hp.2
   simpa using this
theorem lkE_ids {F : Nat → Cont} {id : Nat} {K : Cont} : ∀ (ids : List Nat), lkE (ids.map fun i => (i, F i)) id = some K → K = F id
 | [], h => by simp [lkE] at h
 | i :: ids, h => by
  simp only [List.map_cons, lkE] at h
  by_cases e : i = id
  ·subst e; simp at h; exact h.symm
  ·rw [beq_ne e] at h; exact lkE_ids ids h
theorem O_round {ops : Array Oper} {rest : List Oper} {o : Oper} {l : Nat} {f : FuncId} {tm : Array Value} {asg body : Code} {J : Value → World → Prop} {a : Act} {w : World} (ids : List Nat) (hg : o.guard = none) (hd : ∀ c, o.op ≠ .defer c) (hr : (execOp a.eval o).run P w = .ok (.round l f tm asg body) w)
  (h : W P (some l) asg (BR P l (W P (some l) body (RE P l J none) (RE P l J (some .ret)) (ids.map fun i => (i, RE P l J (some (.exit i)))) (fun _ _ _ => False))) (fun _ _ => False) [] (fun _ _ _ => False) ⟨tm, []⟩ w)
  (h2 : ∀ v w', J v w' → O P r ops n p rest (a.put o.dst v) w') : O P r ops n p (o :: rest) a w := by
 simp only [O, Region.wanted, hg, if_true]
 refine ⟨fun _ _ => trivial, ?_⟩
 rw [Oper.semAt_eq _ _ _ hd, hr]
 refine ⟨fun h => by simp [FW] at h, ?_⟩
 have hRI : RoundIn (FW r) (0 - 1) P l f tm asg body w (fun e w' => ∃ v, e = .returned v ∧ J v w') := by
  refine roundIn_of_wpIn trivial (wpIn_mono h ?_)
  intro z a1 w1 hz
  cases z with
  | normal =>
   obtain ⟨w2, hb, hB⟩ := hz
   refine ⟨w2, hb, wpIn_mono hB ?_⟩
   intro z a w hz
   cases z with
   | normal => obtain ⟨v, w', h1, h2⟩ := hz; exact ⟨v, w', h1, v, rfl, h2⟩
   | ret => obtain ⟨v, w', h1, h2⟩ := hz; exact ⟨v, w', h1, v, rfl, h2⟩
   | exit id =>
    obtain ⟨K, hK, hz⟩ := hz
    have : K = RE P l J (some (.exit id)) := by
     exact lkE_ids (F := fun i => RE P l J (some (.exit i))) ids hK
    subst this
    obtain ⟨v, w', h1, h2⟩ := hz; exact ⟨v, w', h1, v, rfl, h2⟩
   | panic c => exact hz.elim
   | goto l => exact hz.elim
   | outgrown => exact hz.elim
  | ret => exact hz.elim
  | exit id => obtain ⟨K, hK, _⟩ := hz; simp [lkE] at hK
  | panic c => exact hz.elim
  | goto l => exact hz.elim
  | outgrown => exact hz.elim
 refine hRI.mono ?_
 rintro e' w' ⟨v, rfl, hJ⟩
 exact h2 v w' hJ
theorem run_callY {x : Operand} {xs : List Operand} {ats : Array TypeId} {l : Nat} {vs : List Value} {dst : Option Nat} {gd : Option (Nat × Bool)} {ty : TypeId} {pos : String} {af : Array Edge} {a : Act} {w : World} {D : List Deferred} {k : Nat} {rec : Loop} (hA : Has D k a L) (hf : ev L x = some (.func (.yield l) #[] #[])) (hxs : evs L xs = some vs)
  (h : w.heap[l]? = some (.loop rec)) (hs : vs.length = rec.params.size) :
  (execOp a.eval ⟨dst, .call ⟨.value x, xs.toArray, ats⟩, ty, pos, af, gd⟩).run P w = .ok (.round l rec.fn ((rec.params.zip vs.toArray).foldl (fun tmps (t, a) => tmps.setIfInBounds t a) rec.tmps) rec.assign rec.body) w := by
 have := evs_map hA hxs
 have hy := run_yield (P := P) (args := vs.toArray) h (by simpa using hs)
 simp [execOp, resolve, hA.eval hf, Deferred.ofValue, invoke, this, hy]
theorem yl {y : Operand} {xs : List Operand} {ats : Array TypeId} {vs : List Value} {dst : Option Nat} {ty : TypeId} {pos : String} {af : Array Edge} {ops : Array Oper} {rest : List Oper} (t : Nat) {l : Nat} {Oj : LoopState → Option Code → Obj} {tm : Array Value} {ps : List Tmp} {asg body : Code} {k' : Nat} {L' L1 : Env} (ids : List Nat)
  (hy : ev L y = some (.func (.yield l) #[] #[])) (hxs : evs L xs = some vs) (hσ : getO σ t = some (.blk l (Oj .ready none))) (hT : Has [] k' ⟨tm, []⟩ L') (hO : Rec Oj tm ps asg body) (hlen : vs.length = ps.length) (hps : (ps.all fun t => Nat.blt t k') = true) (hL : (ps.zip vs).reverse ++ L' = L1) (J : Value → World → Prop)
  (h1 : TG ⟨[], k', x.M, x.w0, x.H0⟩ Hs σ L1 (W P (some l) asg (BR P l (W P (some l) body (RE P l J none) (RE P l J (some .ret)) (ids.map fun i => (i, RE P l J (some (.exit i)))) (fun _ _ _ => False))) (fun _ _ => False) [] (fun _ _ _ => False)))
  (h2 : ∀ a w v, Has x.D x.k a L → J v w → O P r ops n p rest (a.put dst v) w) : OG P r ops n p x Hs σ L (⟨dst, .call ⟨.value y, xs.toArray, ats⟩, ty, pos, af, none⟩ :: rest) := fun a w hS hA => by
 subst hL
 have hb : w.heap[l]? = some (Oj .ready none) := hS.get hσ
 obtain ⟨fn, dB, hO⟩ := hO
 rw [hO] at hb
 refine O_round (J := J) ids rfl (fun _ h => by cases h) (run_callY hA hy hxs hb (by simpa using hlen)) ?_ (fun v w' hJ => h2 a w' v hA hJ)
 have := h1 _ w hS (has_params (vs := vs) hT hps)
 simpa using this
theorem clT {y : Operand} {xs : List Operand} {ats : Array TypeId} {f : FuncId} {fnc : Func} {cd : Code} {nt : Nat} {first cap : List Value} {vs args : List Value} {dst : Option Nat} {ty : TypeId} {pos : String} {af : Array Edge} {ops : Array Oper} {rest : List Oper} (hcall : ∀ args w, (callFunc f args).run P w = .ok (.enter f args) w) (hfn : P.funcs[f]? = some fnc) (hb : fnc.body = some cd) (hn : fnc.ntmps = nt) (hf : ev L y = some (.func (.func f) first.toArray cap.toArray)) (hxs : evs L xs = some vs) (hargs : first ++ vs ++ cap = args) (hl : Nat.ble args.length nt = true)
  (h1 : TG ⟨[], nt, x.M, x.w0, x.H0⟩ Hs σ (envOf 0 args) (W P none cd (Rt P fnc fun e w => ∃ v, e = .returned v ∧ ∀ a, Has x.D x.k a L → O P r ops n p rest (a.put dst v) w) (Rt P fnc fun e w => ∃ v, e = .returned v ∧ ∀ a, Has x.D x.k a L → O P r ops n p rest (a.put dst v) w) [] (fun _ _ _ => False))) :
  OG P r ops n p x Hs σ L (⟨dst, .call ⟨.value y, xs.toArray, ats⟩, ty, pos, af, none⟩ :: rest) :=
 clI hcall hfn hb hn hf hxs hargs hl (fun v w => ∀ a, Has x.D x.k a L → O P r ops n p rest (a.put dst v) w) h1 fun a w v hA hJ => hJ a hA
end
end Pk
namespace Pk
open Go Go.RowKit
def Ifc (v : Value) : Prop := v = .nilIface ∨ ∃ te pe, v = .iface te pe
def Er (v : Value) (b : Bool) : Prop := (b = false ∧ v = .nilIface) ∨ (b = true ∧ ∃ t u, v = .iface t u)
structure Gl (M : Prop) (gS gR gT : Nat) (H : Hp) : Prop where
 nq : ¬ M
 syn : ∃ ev, CellsAt H ⟨gS, 0, none⟩ [ev] ∧ Ifc ev
 rng : ∃ ev, CellsAt H ⟨gR, 0, none⟩ [ev] ∧ Ifc ev
 tab : ∃ t z, H gT = some (.cells (Lib.pow10Tab.map fun i => Value.int .u64 i).toArray t z)
theorem Gl.mono {M : Prop} {gS gR gT : Nat} {H K : Hp} (h : Gl M gS gR gT H) (hk : H.le K) : Gl M gS gR gT K := by
 obtain ⟨hn, ⟨a, h1, h2⟩, ⟨b, h3, h4⟩, ⟨t, z, h5⟩⟩ := h
 exact ⟨hn, ⟨a, h1.mono hk, h2⟩, ⟨b, h3.mono hk, h4⟩, ⟨t, z, hk _ _ h5⟩⟩
theorem cell_of {w : World} {H : Hp} {g : Nat} {v : Value} (hH : H.le (hp w)) (h : CellsAt H ⟨g, 0, none⟩ [v]) : w.cell? ⟨g, 0, none⟩ = some v := by
 obtain ⟨_, h⟩ := h
 obtain ⟨cs, t, z, h1, h2⟩ := h 0 v rfl
 have := hH _ _ h1
 simp [World.cell?, show w.heap[g]? = _ from this]
 simpa using h2
theorem tabIs_of {P : Program} {w : World} {H : Hp} {g : Nat} {nm : String} (hn : P.globalNamed nm = some g) (hH : H.le (hp w)) (h : ∃ t z, H g = some (.cells (Lib.pow10Tab.map fun i => Value.int .u64 i).toArray t z)) : Lib.TabIs P w nm .u64 Lib.pow10Tab := by
 obtain ⟨t, z, h⟩ := h
 have := hH _ _ h
 simp [Lib.TabIs, World.var?, hn, show w.heap[g]? = _ from this]
theorem Ext.of_below {M : Prop} {w w' : World} (hM : ¬ M) (h : Below w.heap.size w w') : Ext M w w' := ⟨h.os, h.tape, h.output, h.size, fun b hb => h.block b hb, fun q => absurd q hM⟩
def atoiR (s : Bytes) : Int × Bool := match Lib.atoiAll s with
 | .ok v => (v, false)
 | .range => (Lib.atoiSat s, true)
 | _ => (0, true)
noncomputable def atoiM (s : Bytes) : Option (Int × Bool) := chk (s.length ≤ 1073741824) (some (atoiR s))
noncomputable def itoaM (n : Int) : Option Bytes := chk (-9223372036854775808 ≤ n ∧ n ≤ 9223372036854775807) (some (Lib.itoa n))
section
variable {P : Program} {r : Option Nat} {n : Cont} {p : List PanicEntry → Cont} {ops : Array Oper} {rest : List Oper} {d : Nat} {ty : TypeId} {pos : String} {af : Array Edge} {x : Fr} {Hs : List Hp} {σ : Owns} {L : Env}
theorem neE {y : Operand} {t u : TypeId} {v : Value} {b : Bool} {ms : _} (hu' : P.underlying t = some (.interface ms)) (hd : Nat.blt d x.k = true) (hy : ev L y = some v) (hb : Er v b) (h : OG P r ops n p x Hs σ ((d, .bool b) :: L) rest) : OG P r ops n p x Hs σ L (⟨some d, .binOp .neq t y (.const .nilIface) u, ty, pos, af, none⟩ :: rest) := fun a w hS hA => by
 have hu : P.underlying t = some (.interface (P.methodsAt t)) := by rw [hu']; simp [Program.methodsAt, hu']
 refine O_run rfl (fun _ h => by cases h) (w' := w) (v := .bool b) ?_ (h _ w hS (hA.put hd _))
 rcases hb with ⟨rfl, rfl⟩ | ⟨rfl, te, pe, rfl⟩ <;> simp [execOp, hA.eval hy, show a.eval (.const .nilIface) = .nilIface from rfl, eqGuard, run_neq_nil_nil w t hu, run_neq_held_nil w t _ _ hu, run_eql_nil_nil w t hu, run_eql_held_nil w t _ _ hu, Result.andThen]
end
def ltM {α : Type} (f : α → α → Option Int) (x y : α) : Bool := match f x y with
 | some c => decide (c < 0)
 | none => false
structure SortOK {α : Type} (f : α → α → Option Int) (l : List α) : Prop where
 small : l.length ≤ 1073741824
 some_ : ∀ x ∈ l, ∀ y ∈ l, ∃ c, f x y = some c
 irr : ∀ x ∈ l, ltM f x x = false
 tr : ∀ x ∈ l, ∀ y ∈ l, ∀ z ∈ l, ltM f x y = true → ltM f y z = true → ltM f x z = true
 tot : ∀ x ∈ l, ∀ y ∈ l, ltM f x y = false → ltM f y x = false → x = y
open Classical in
noncomputable def sortO {α : Type} (f : α → α → Option Int) (l : List α) : Option (List α) := if SortOK f l then some (l.mergeSort fun x y => !ltM f y x) else none
theorem sortO_some {α : Type} {f : α → α → Option Int} {l l' : List α} (h : sortO f l = some l') : SortOK f l ∧ l.mergeSort (fun x y => !ltM f y x) = l' := by
 unfold sortO at h
 split at h
 ·exact ⟨‹_›, Option.some.inj h⟩
 ·cases h
theorem sortO_len {α : Type} {f : α → α → Option Int} {l l' : List α} (h : sortO f l = some l') : l'.length = l.length := by
 rw [← (sortO_some h).2, List.length_mergeSort]
end Pk
namespace Pk
open Go Go.RowKit Go.ChangeShapes Go.WideShapes
def Rdg (P : Program) (w : World) (t : TypeId) (n : Nat) {α : Type} (R : Hp → List Value → α → Prop) (ok : α → Prop) : Prop :=
 P.cellsOf t = n ∧ ∀ {H : Type} (enc : TypeId × Value → H) (base : Nat) (sp : Nat → Bool) (held : Bool) (fuel : Nat) (cs : List Value) (x : DataW H × List MemPlace), DataW.trod enc P w base sp held fuel t cs = some x → cs.length = n ∧ ∃ a, R (hp w) cs a ∧ ok a
abbrev okInt (k : IntKind) (n : Int) : Prop := k.min ≤ n ∧ n ≤ k.max
abbrev okL {α : Type} (ok : α → Prop) (l : List α) : Prop := ∀ x ∈ l, ok x
abbrev okT {α : Type} (_ : α) : Prop := True
section
variable {P : Program} {w : World} {t e : TypeId}
theorem rd_one {α : Type} {R : Hp → List Value → α → Prop} {ok : α → Prop} {ds : TypeDesc} (_hu : P.underlying t = some ds) (hc : P.cellsOf t = 1)
  (h0 : ∀ {H : Type} (enc : TypeId × Value → H) (base : Nat) (sp : Nat → Bool) (held : Bool) (fuel : Nat), DataW.trod enc P w base sp held (fuel + 1) t [] = none)
  (h2 : ∀ {H : Type} (enc : TypeId × Value → H) (base : Nat) (sp : Nat → Bool) (held : Bool) (fuel : Nat) (u v : Value) (l : List Value), DataW.trod enc P w base sp held (fuel + 1) t (u :: v :: l) = none)
  (h1 : ∀ {H : Type} (enc : TypeId × Value → H) (base : Nat) (sp : Nat → Bool) (held : Bool) (fuel : Nat) (v : Value) (x : DataW H × List MemPlace), DataW.trod enc P w base sp held (fuel + 1) t [v] = some x → ∃ a, R (hp w) [v] a ∧ ok a) : Rdg P w t 1 R ok := by
 refine ⟨hc, fun {H} enc base sp held fuel cs x h => ?_⟩
 cases fuel with
 | zero => cases h
 | succ fuel =>
  match cs, h with
  | [], h => rw [h0] at h; cases h
  | [v], h => exact ⟨rfl, h1 enc base sp held fuel v x h⟩
  | u :: v :: l, h => rw [h2] at h; cases h
theorem rd_int {k : IntKind} (hu : P.underlying t = some (.int k)) (hc : P.cellsOf t = 1) : Rdg P w t 1 (Flat (encI k)) (okInt k) := by
 refine rd_one hu hc (fun enc base sp held fuel => by unfold DataW.trod; rw [hu]) (fun enc base sp held fuel u v l => by unfold DataW.trod; rw [hu]; cases u <;> rfl) (fun enc base sp held fuel v x h => ?_)
 unfold DataW.trod at h
 rw [hu] at h
 cases v <;> simp at h
 rename_i k' n
 obtain ⟨⟨rfl, hw⟩, _⟩ := h
 exact ⟨n, rfl, by simpa [Lit.wf, IntKind.has] using hw⟩
theorem rd_string (hu : P.underlying t = some .string) (hc : P.cellsOf t = 1) : Rdg P w t 1 (Flat encS) (fun s => s.length ≤ maxLen) := by
 refine rd_one hu hc (fun enc base sp held fuel => by unfold DataW.trod; rw [hu]) (fun enc base sp held fuel u v l => by unfold DataW.trod; rw [hu]; cases u <;> rfl) (fun enc base sp held fuel v x h => ?_)
 unfold DataW.trod at h
 rw [hu] at h
 cases v <;> simp at h
 rename_i s
 refine ⟨s.data.toList, ?_, by show s.data.toList.length ≤ maxLen; rw [Array.length_toList]; exact h.1⟩
 show _ = encS _
 simp [encS, bs]
theorem ex_list {α : Type} {Q : Nat → α → Prop} : ∀ (n : Nat), (∀ i, i < n → ∃ x, Q i x) → ∃ l : List α, l.length = n ∧ ∀ i x, l[i]? = some x → Q i x
 | 0, _ => ⟨[], rfl, fun i x h => by simp at h⟩
 | n + 1, h => by
  obtain ⟨l, h1, h2⟩ := ex_list n (fun i hi => h i (by omega))
  obtain ⟨x, hx⟩ := h n (by omega)
  refine ⟨l ++ [x], by simp [h1], fun i y hy => ?_⟩
  by_cases hi : i < l.length
  ·rw [List.getElem?_append_left hi] at hy; exact h2 i y hy
  ·rw [List.getElem?_append_right (by omega)] at hy
   have : i - l.length = 0 := by
    by_cases c : i - l.length = 0
    ·exact c
    ·rw [List.getElem?_eq_none (by simp; omega)] at hy; cases hy
   rw [this] at hy
   simp at hy
   subst hy
   rw [show i = n by omega]; exact hx
theorem mapM_at {α β : Type} {f : α → Option β} : ∀ {l : List α} {ys : List β}, l.mapM f = some ys → ∀ x ∈ l, ∃ y, f x = some y
 | [], _, _, x, hx => by cases hx
 | a :: l, ys, h, x, hx => by
  simp only [List.mapM_cons, Option.pure_def, Option.bind_eq_bind, Option.bind_eq_some_iff] at h
  obtain ⟨y, h1, zs, h2, _⟩ := h
  rcases List.mem_cons.1 hx with rfl | hx
  ·exact ⟨y, h1⟩
  ·exact mapM_at h2 x hx
theorem cells_ca {base : Nat} {a : Addr} {n : Nat} {cs : List Value} (h : w.cells? base a n = some cs) (hn : 0 < n) : CellsAt (hp w) a cs ∧ cs.length = n := by
 unfold World.cells? at h
 split at h
 ·have hlen : cs.length = n := by
   have : ∀ (l : List Nat) (ys : List Value), l.mapM (fun i => w.cell? (a.add i)) = some ys → ys.length = l.length := by
    intro l
    induction l with
    | nil => intro ys h; simp at h; subst h; rfl
    | cons x l ih =>
     intro ys h
     simp only [List.mapM_cons, Option.pure_def, Option.bind_eq_bind, Option.bind_eq_some_iff] at h
     obtain ⟨y, _, zs, h2, h3⟩ := h
     cases h3; simp [ih _ h2]
   rw [this _ _ h]; simp
  have hat : ∀ (l : List Nat) (ys : List Value), l.mapM (fun i => w.cell? (a.add i)) = some ys → ∀ (j : Nat) (v : Value), ys[j]? = some v → ∃ i : Nat, l[j]? = some i ∧ w.cell? (a.add i) = some v := by
   intro l
   induction l with
   | nil => intro ys h j v hj; simp at h; subst h; simp at hj
   | cons x l ih =>
    intro ys h j v hj
    simp only [List.mapM_cons, Option.pure_def, Option.bind_eq_bind, Option.bind_eq_some_iff] at h
    obtain ⟨y, h1, zs, h2, h3⟩ := h
    cases h3
    cases j with
    | zero => simp at hj; subst hj; exact ⟨x, rfl, h1⟩
    | succ j => simp at hj; exact ih _ h2 j v hj
  have hij : ∀ j i : Nat, (List.range n)[j]? = some i → i = j := by
   intro j i hi
   have hlt : j < n := by
    have := (List.getElem?_eq_some_iff.1 hi).1; simpa using this
   rw [List.getElem?_range hlt] at hi; simpa using hi.symm
  have hs : a.spot = none := by
   obtain ⟨i, hi, hv⟩ := hat _ _ h 0 (cs[0]'(by omega)) (List.getElem?_eq_getElem _)
   obtain rfl := hij _ _ hi
   have ha : a.add 0 = a := by simp [Addr.add]
   rw [ha] at hv
   unfold World.cell? at hv
   split at hv
   ·cases hs : a.spot with
    | none => rfl
    | some s => simp [hs] at hv
   ·cases hv
  refine ⟨⟨hs, fun j v hj => ?_⟩, hlen⟩
  obtain ⟨i, hi, hv⟩ := hat _ _ h j v hj
  obtain rfl := hij _ _ hi
  rw [addr_add hs] at hv
  unfold World.cell? at hv
  simp only at hv
  split at hv
  ·rename_i c ty fz hh
   simp at hv
   exact ⟨c, ty, fz, hh, hv⟩
  ·cases hv
 ·cases h
theorem rd_slice {α : Type} {R : Hp → List Value → α → Prop} {ok : α → Prop} {n : Nat} (hu : P.underlying t = some (.slice e)) (hc : P.cellsOf t = 1) (hn : 0 < n) (he : Rdg P w e n R ok) : Rdg P w t 1 (RSl R n) (okL ok) := by
 refine ⟨hc, fun {H} enc base sp held fuel cs x h => ?_⟩
 cases fuel with
 | zero => cases h
 | succ fuel =>
  unfold DataW.trod at h
  rw [hu] at h
  split at h <;> try (simp_all; done)
  ·exact ⟨rfl, [], ⟨none, 0, rfl, Sl.nil _ _ _ _ _ (by decide)⟩, fun x hx => by cases hx⟩
  ·rename_i e' a len cap he'
   cases he'
   split at h
   ·rename_i hb
    rw [Option.bind_eq_some_iff] at h
    obtain ⟨elems, h1, _⟩ := h
    rw [he.1] at h1
    have hat : ∀ i, i < len → ∃ z, (∃ cs, w.cells? base (a.add (i * n)) n = some cs ∧ R (hp w) cs z) ∧ ok z := by
     intro i hi
     obtain ⟨y, hy⟩ := mapM_at h1 i (List.mem_range.2 hi)
     rw [Option.bind_eq_some_iff] at hy
     obtain ⟨cs, hcs, hy⟩ := hy
     obtain ⟨_, z, hz1, hz2⟩ := he.2 enc base sp held fuel cs y hy
     exact ⟨z, ⟨cs, hcs, hz1⟩, hz2⟩
    obtain ⟨l, hl, hq⟩ := ex_list len hat
    subst hl
    refine ⟨rfl, l, ⟨some a, cap, rfl, ⟨hb.2.1, Nat.le_trans hb.2.2 (by decide)⟩, fun i z hz => ?_⟩, fun z hz => ?_⟩
    ·obtain ⟨⟨cs, h2, h3⟩, _⟩ := hq i z hz
     obtain ⟨h4, h5⟩ := cells_ca h2 hn
     have hsp : a.spot = none := by
      obtain ⟨_, ⟨cs0, h6, _⟩, _⟩ := hat 0 (by have := lt_of hz; omega)
      have := (cells_ca h6 hn).1.1
      simpa [Addr.add] using this
     exact ⟨a, cs, rfl, hsp, h5, h4, h3⟩
    ·obtain ⟨i, hi⟩ := List.mem_iff_getElem?.1 hz
     exact (hq i z hi).2
   ·cases h
def pcs (cs : List Value) : List Nat → Nat → List (List Value)
 | [], _ => []
 | n :: ns, o => (cs.drop o).take n :: pcs cs ns (o + n)
theorem pcs_eq (cs : List Value) : ∀ (ns : List Nat) (o : Nat), cs.length = o + ns.sum → cs.drop o = (pcs cs ns o).flatten
 | [], o, h => by simp at h; simp [pcs, List.drop_eq_nil_of_le (Nat.le_of_eq h)]
 | n :: ns, o, h => by
  simp only [pcs, List.flatten_cons]
  rw [← pcs_eq cs ns (o + n) (by simp at h; omega), ← List.drop_drop, List.take_append_drop]
theorem trod_struct {H : Type} {enc : TypeId × Value → H} {base : Nat} {sp : Nat → Bool} {held : Bool} {fuel : Nat} {cs : List Value} {x : DataW H × List MemPlace} {fs : Array Field} (hu : P.underlying t = some (.struct fs)) (h : DataW.trod enc P w base sp held fuel t cs = some x) :
  cs.length = P.cellsOf t ∧ ∃ fuel', ∀ f ∈ fs.toList, ∃ y, DataW.trod enc P w base sp held fuel' f.type ((cs.drop f.offset).take (P.cellsOf f.type)) = some y := by
 cases fuel with
 | zero => cases h
 | succ fuel =>
  unfold DataW.trod at h
  rw [hu] at h
  simp only at h
  split at h
  ·rename_i hl
   refine ⟨hl, fuel, fun f hf => ?_⟩
   rw [Option.map_eq_some_iff] at h
   obtain ⟨ys, h1, _⟩ := h
   exact mapM_at h1 f hf
  ·cases h
theorem rd_arg {α : Type} {R : Hp → List Value → α → Prop} {ok : α → Prop} (hr : Rdg P w t 1 R ok) {H : Type} {enc : TypeId × Value → H} {base b0 : Nat} {sp : Nat → Bool} {held : Bool} {v : Value} {d : DataW H} {ps : List MemPlace} (hv : Value.okWide P w .any b0 t v) (hns : ∀ cs, v ≠ .agg cs) (h : DataW.Trod enc P w base sp held t v d ps) : ∃ a, R (hp w) [v] a ∧ ok a := by
 obtain ⟨fuel, h⟩ := h
 obtain ⟨_, a, h1, h2⟩ := hr.2 enc base sp held fuel _ _ h
 have : v.cells.toList = [v] := by
  cases v <;> first | rfl | exact absurd rfl (hns _)
 rw [this] at h1
 exact ⟨a, h1, h2⟩
theorem rd_aggarg {α : Type} {n : Nat} {R : Hp → List Value → α → Prop} {ok : α → Prop} (hr : Rdg P w t n R ok) {H : Type} {enc : TypeId × Value → H} {base b0 : Nat} {sp : Nat → Bool} {held : Bool} {v : Value} {d : DataW H} {ps : List MemPlace} {fs : Array Field} (hu : P.underlying t = some (.struct fs)) (hv : Value.okWide P w .any b0 t v) (h : DataW.Trod enc P w base sp held t v d ps) : ∃ cs a, v = .agg cs.toArray ∧ R (hp w) cs a ∧ ok a := by
 unfold Value.okWide at hv
 rw [hu] at hv
 obtain ⟨cs, rfl, _, _⟩ := hv
 obtain ⟨fuel, h⟩ := h
 obtain ⟨_, a, h1, h2⟩ := hr.2 enc base sp held fuel _ _ h
 exact ⟨cs.toList, a, by simp, h1, h2⟩
theorem nsl (hu : P.underlying t = some (.slice e)) {b0 : Nat} {v : Value} (hv : Value.okWide P w .any b0 t v) : ∀ cs, v ≠ .agg cs := by
 rintro cs rfl
 unfold Value.okWide at hv
 rw [hu] at hv
 simp only [Cell.okWide, hu, Cell.ok] at hv
theorem nint {k : IntKind} (hu : P.underlying t = some (.int k)) {b0 : Nat} {v : Value} (hv : Value.okWide P w .any b0 t v) : ∀ cs, v ≠ .agg cs := by
 rintro cs rfl
 unfold Value.okWide at hv
 rw [hu] at hv
 simp only [Cell.okWide, hu, Cell.ok] at hv
end
section
variable {H : Type} {enc : TypeId × Value → H} {P : Program}
theorem trodAll_stays (hl : laidOutB P = true) {W W' : World} {sp : Nat → Bool} (hb : Below W.heap.size W W') : ∀ {ts : List TypeId} {vs : List Value} {ds : List (DataW H)} {ps : List MemPlace}, (∀ t ∈ ts, P.readableRec t = true ∧ t < P.types.size) → DataW.TrodAll enc P W 0 (fun _ => true) true ts vs ds ps → (∀ x ∈ ps, x.block < W.heap.size) → (∀ x ∈ ps, sp x.block = true) → DataW.TrodAll enc P W' 0 sp true ts vs ds ps
 | [], _, _, _, _, h, _, _ => by
  obtain ⟨rfl, rfl, rfl⟩ := trodAll_nil h
  exact rfl
 | t :: ts, _, _, _, hr, h, hlt, hs => by
  obtain ⟨v, vs, d, ds, p, q, rfl, rfl, rfl, h1, h2⟩ := trodAll_cons h
  have ht := hr t List.mem_cons_self
  exact ⟨p, q, WideElems.Trod_stays hl ht.1 ht.2 h1 (fun x hx => hb.same (hlt x (List.mem_append_left _ hx))) (fun x hx => hs x (List.mem_append_left _ hx)),
   trodAll_stays hl hb (fun u hu => hr u (List.mem_cons_of_mem _ hu)) h2 (fun x hx => hlt x (List.mem_append_right _ hx)) (fun x hx => hs x (List.mem_append_right _ hx)), rfl⟩
theorem ext_below {M : Prop} {w w' : World} (h : Ext M w w') : Below w.heap.size w w' := ⟨h.os, h.tape, h.output, h.size, fun b hb => h.keep b hb⟩
theorem kept_of {M : Prop} {w w' : World} (h : Ext M w w') (may : MemPlace → Prop) : w.keptBut w' may := by
 refine ⟨h.os, h.output, fun i hi => ?_⟩
 rw [h.keep i hi]
 cases w.heap[i]? with
 | none => trivial
 | some o => cases o <;> first | rfl | exact ⟨rfl, rfl, rfl, fun _ _ => rfl⟩ | exact .inr ⟨rfl, rfl⟩
theorem post_law {f : Func} {s : ChangeSpec} {apart fresh handsOn again : Bool} {W W' : World} {args : Array Value} {ds gs : List (DataW H)} {before : List MemPlace} {tb : TypeId}
  (hW : DataW.Whole enc P f.params.toList s.vars apart W args.toList ds gs before) (hv : s.vars = []) (hl : laidOutB P = true) (hr : ∀ t ∈ f.params.toList, P.readableRec t = true ∧ t < P.types.size)
  (hs : s.fn H ds = { results := [.lit (.bool true)], args := ds }) (hrt : f.resultTypes = #[tb]) (hb : P.underlying tb = some .bool) {M : Prop} (hE : Ext M W W') : s.post enc P f apart fresh handsOn again W args (.bool true) W' := by
 have hB := ext_below hE
 have hlt : ∀ x ∈ before, x.block < W.heap.size := fun x hx => by simpa using hW.lt x hx
 have hold : ∀ p ∈ before, (fun b => decide (b < W.heap.size)) p.block = true := fun p hp => by simpa using hlt p hp
 have hW0 := hW
 obtain ⟨p, q, hA, hV, rfl, hz, hn⟩ := hW
 rw [hv] at hV
 obtain ⟨rfl, rfl⟩ := trodVars_none hV
 rw [List.append_nil] at *
 have hfn : s.fn H (ds ++ []) = { results := [.lit (.bool true)], args := ds } := by rw [List.append_nil]; exact hs
 have hargs : ∀ sp : Nat → Bool, (∀ x ∈ p, sp x.block = true) → DataW.TrodAll enc P W' 0 sp true f.params.toList args.toList ds p := fun sp h => trodAll_stays hl hB hr hA hlt h
 have hres : ∀ (b : Nat) (sp : Nat → Bool) (hd : Bool), DataW.TrodAll enc P W' b sp hd f.resultTypes.toList ((Value.bool true).resultList f.resultTypes.size) [.lit (.bool true)] [] := fun b sp hd => by
  rw [hrt]; exact trodAll_mk1 (shut_bool hb _)
 have hvars : ∀ sp : Nat → Bool, DataW.TrodVars enc P W' sp s.vars [] [] := fun sp => by rw [hv]; rfl
 refine ⟨ds, [], p, [], p, [], by simpa using hW0, by rw [hfn]; exact hres _ _ _, by rw [hfn]; exact hargs _ hold, by rw [hfn]; exact hvars _, World.keptBut_mono (fun x hx => ⟨hx, by simpa using hx⟩) (kept_of hE _), fun _ => ?_⟩
 refine ⟨ok_one hrt rfl (okWide_bool_mk hb _), _, _, ([] ++ p) ++ [], ⟨[] ++ p, [], trodAll_append (hargs _ (fun _ _ => rfl)) (hres _ _ _), hvars _, rfl, ?_, ?_⟩, ?_⟩
 ·intro b off hp
  have hp' : MemPlace.cell b off ∈ p := by simpa using hp
  have hb' : b < W.heap.size := hlt _ hp'
  have : W'.frozen? ⟨b, off, none⟩ = W.frozen? ⟨b, off, none⟩ := by
   unfold World.frozen?; rw [hE.keep b hb']
  rw [this]
  exact hz b off hp'
 ·intro ha
  have := hn ha
  simpa using this
 ·intro x hx _
  simpa using hx
end
section
variable {H : Type} {enc : TypeId × Value → H} {P : Program} {w : World} {t e : TypeId} {base : Nat} {sp : Nat → Bool} {held : Bool} {fuel : Nat} {cs : List Value}
theorem rd_iface {ms : Array (String × TypeId)} {x : DataW H × List MemPlace} (hu : P.underlying t = some (.interface ms)) (h : DataW.trod enc P w base sp held fuel t cs = some x) : ∃ v, cs = [v] ∧ Ifc v := by
 cases fuel with
 | zero => cases h
 | succ fuel =>
  unfold DataW.trod at h
  rw [hu] at h
  match cs, h with
  | [], h => cases h
  | [.nilIface], _ => exact ⟨_, rfl, .inl rfl⟩
  | [.iface u v], _ => exact ⟨_, rfl, .inr ⟨_, _, rfl⟩⟩
  | u :: v :: l, h => cases u <;> simp at h
  | [.bool _], h | [.int _ _], h | [.float _ _], h | [.complex _ _ _], h | [.string _], h | [.pointer _], h | [.slice _ _ _], h | [.agg _], h | [.tuple _], h | [.map _], h | [.chan _], h | [.func _ _ _], h | [.nilFunc], h => simp at h
theorem var_cells {n : String} {g : Nat} {cs : Array Value} (hg : P.globalNamed n = some g) (hv : w.var? P n = some cs) : ∃ t z, hp w g = some (.cells cs t z) := by
 unfold World.var? at hv
 rw [hg, Option.bind_some] at hv
 split at hv
 ·rename_i c t z hh
  cases hv
  exact ⟨t, z, hh⟩
 ·cases hv
theorem var_one {n : String} {g : Nat} {cs : Array Value} {v : Value} (hg : P.globalNamed n = some g) (hv : w.var? P n = some cs) (hc : cs.toList = [v]) : CellsAt (hp w) ⟨g, 0, none⟩ [v] := by
 obtain ⟨t, z, h⟩ := var_cells hg hv
 refine ⟨rfl, fun j u hu => ⟨cs, t, z, h, ?_⟩⟩
 rw [← hc] at hu
 simpa using hu
theorem mapM_get {α β : Type} {f : α → Option β} : ∀ {l : List α} {ys : List β}, l.mapM f = some ys → ∀ i : Nat, (l[i]?).bind f = ys[i]?
 | [], ys, h, i => by simp at h; subst h; simp
 | a :: l, ys, h, i => by
  simp only [List.mapM_cons, Option.pure_def, Option.bind_eq_bind, Option.bind_eq_some_iff] at h
  obtain ⟨y, h1, zs, h2, h3⟩ := h
  cases h3
  cases i with
  | zero => simpa using h1
  | succ i => simpa using mapM_get h2 i
theorem rd_tab {k : IntKind} {n : Nat} {zs : List Int} {ps : List MemPlace} (hu : P.underlying t = some (.array n e)) (he : P.underlying e = some (.int k)) (hc : P.cellsOf e = 1) (ht : P.cellsOf t = n) (h : DataW.trod enc P w base sp held fuel t cs = some (.agg (zs.map fun z => .lit (.int k z)), ps)) : cs = zs.map fun z => Value.int k z := by
 cases fuel with
 | zero => cases h
 | succ fuel =>
  unfold DataW.trod at h
  rw [hu] at h
  simp only at h
  split at h
  ·rename_i hl
   rw [Option.map_eq_some_iff] at h
   obtain ⟨xs, h1, h2⟩ := h
   simp only [Prod.mk.injEq, DataW.agg.injEq] at h2
   have hx := h2.1
   rw [hc] at h1
   apply List.ext_getElem?
   intro i
   have hi := mapM_get h1 i
   by_cases hin : i < n
   ·rw [List.getElem?_range hin, Option.bind_some] at hi
    have hlt : i < cs.length := by omega
    have e1 : (cs.drop (i * 1)).take 1 = [cs[i]] := by rw [Nat.mul_one, List.drop_eq_getElem_cons hlt, List.take_succ_cons, List.take_zero]
    rw [e1] at hi
    have hxi : xs[i]? ≠ none := by
     intro hn
     obtain ⟨y, hy⟩ := mapM_at h1 i (List.mem_range.2 hin)
     rw [e1, hi, hn] at hy; cases hy
    cases hxs : xs[i]? with
    | none => exact absurd hxs hxi
    | some y =>
     rw [hxs] at hi
     have hz : (zs.map fun z => (DataW.lit (.int k z) : DataW H))[i]? = some y.1 := by rw [← hx]; simp [hxs]
     cases fuel with
     | zero => cases hi
     | succ fuel =>
      unfold DataW.trod at hi
      rw [he] at hi
      rw [List.getElem?_eq_getElem hlt]
      cases hv : cs[i] <;> rw [hv] at hi <;> simp at hi
      rename_i k' m
      obtain ⟨⟨rfl, _⟩, rfl⟩ := hi
      simp only [List.getElem?_map, Option.map_eq_some_iff] at hz ⊢
      obtain ⟨z, hz1, hz2⟩ := hz
      cases hz2
      simp [hz1]
   ·have : xs[i]? = none := by
     rw [← hi, List.getElem?_eq_none (by simp; omega)]; rfl
    have hz : (zs.map fun z => (DataW.lit (.int k z) : DataW H))[i]? = none := by rw [← hx]; simp [this]
    rw [List.getElem?_eq_none (show cs.length ≤ i by omega)]
    rw [List.getElem?_eq_none_iff, List.length_map] at hz
    symm
    rw [List.getElem?_eq_none_iff, List.length_map]
    exact hz
  ·cases h
theorem gl_mk {gS gR gT : Nat} {nS nR nT : String} {cS cR cT : Array Value} {vS vR : Value} (h1 : P.globalNamed nS = some gS) (h2 : w.var? P nS = some cS) (h3 : cS.toList = [vS]) (h4 : Ifc vS) (h5 : P.globalNamed nR = some gR) (h6 : w.var? P nR = some cR) (h7 : cR.toList = [vR]) (h8 : Ifc vR)
  (h9 : P.globalNamed nT = some gT) (h10 : w.var? P nT = some cT) (h11 : cT.toList = Lib.pow10Tab.map fun z => Value.int .u64 z) : Gl False gS gR gT (hp w) := by
 refine ⟨not_false, ⟨vS, var_one h1 h2 h3, h4⟩, ⟨vR, var_one h5 h6 h7, h8⟩, ?_⟩
 obtain ⟨t, z, h⟩ := var_cells h9 h10
 have : cT = (Lib.pow10Tab.map fun z => Value.int .u64 z).toArray := by rw [← h11]
 exact ⟨t, z, by rw [← this]; exact h⟩
end
end Pk
namespace Pk
open Go Go.Proofs
def SrtK (P : Program) (f k : Nat) : Prop :=
 (∀ p cap fv w, Calls P f #[.slice p 0 cap, fv] w fun e w' => e = .returned (.tuple #[]) ∧ w' = w) ∧
 ∀ (α : Type) (_ : Inhabited α) (enc : α → List Value) (_ : ∀ x, (enc x).length = k) (_ : ∀ x, ∀ v ∈ enc x, v.oneCell' = true) (cf : α → α → Int) (_ : Sort.SWO (ltOf cf)) (g : Nat) (cb : Array Value) (blk off cap : Nat) (d : Array α) (w : World),
  (∀ args w, (callFunc g args).run P w = .ok (.enter g args) w) → CmpLays P g cb enc k cf blk off d.size w → Sort.HoldsK enc k w blk off d → blk < w.heap.size → d.size < 4611686018427387904 → (∀ x y, (ltOf cf) x y = false → (ltOf cf) y x = false → x = y) →
  Calls P f #[.slice (some ⟨blk, off, none⟩) d.size cap, .func (.func g) #[] cb] w fun e w' => e = .returned (.tuple #[]) ∧ ∃ n os, w' = sortWorldK enc k w blk off n (d.toList.mergeSort fun x y => !(ltOf cf) y x).toArray os
theorem ext_grow {M : Prop} {w w' : World} (q : M) (h : Ext M w w') : ∃ n os, w' = Sort.grow (w.drewN n) os := by
 refine ⟨w'.drawn - w.drawn, w'.heap.extract w.heap.size, ?_⟩
 have hd := h.drawn q
 have hh : w'.heap = w.heap ++ w'.heap.extract w.heap.size := by
  have hs := h.size
  refine Array.ext_getElem? fun i => ?_
  by_cases hi : i < w.heap.size
  ·rw [Array.getElem?_append_left hi]; exact h.keep i hi
  ·rw [Array.getElem?_append_right (by omega), Array.getElem?_extract]
   by_cases h2 : i < w'.heap.size
   ·rw [if_pos (by omega)]; congr 1; omega
   ·rw [if_neg (by omega)]; exact Array.getElem?_eq_none (by omega)
 obtain ⟨heap, tape, drawn, os, out⟩ := w'
 obtain ⟨heap0, tape0, drawn0, os0, out0⟩ := w
 have h1 := h.os; have h2 := h.tape; have h3 := h.output
 dsimp only at h1 h2 h3 hd hh
 subst h1; subst h2; subst h3
 simp only [Sort.grow, World.drewN, World.mk.injEq, and_true, true_and]
 exact ⟨hh, by omega⟩
theorem mapBlock_other {w : World} {g b : Nat} {f : Array Value → Array Value} (h : b ≠ g) : (Sort.mapBlock w g f).heap[b]? = w.heap[b]? := by
 show (w.heap.modify g _)[b]? = _
 rw [Array.getElem?_modify, if_neg (Ne.symm h)]
theorem put_own {α : Type} [Inhabited α] {enc : α → Value} {w : World} {g m : Nat} {d : Array α} {os : Array Obj} {cur : Array Value} {e : TypeId} {fz : Nat × Nat} (hg : w.heap[g]? = some (.cells cur e fz)) (hd : d.size ≤ cur.size) :
  Grown w (sortWorld enc w g 0 m d os) (some g) ∧ ∃ cur', (sortWorld enc w g 0 m d os).heap[g]? = some (.cells cur' e fz) ∧ cur'.size = cur.size ∧ cur'.toList.take d.size = d.toList.map enc := by
 have hlt : g < w.heap.size := (Array.getElem?_eq_some_iff.1 hg).1
 have hsz : (Sort.putRow enc (Sort.ahead w m) g 0 d).heap.size = w.heap.size := by simp [Sort.putRow, Sort.mapBlock, Sort.ahead]
 refine ⟨⟨⟨rfl, rfl, rfl, ?_, fun b hb hne => ?_⟩, ?_⟩, Sort.putCells enc 0 d cur, ?_, ?_, ?_⟩
 ·show _ ≤ ((Sort.putRow enc (Sort.ahead w m) g 0 d).heap ++ os).size
  rw [Array.size_append, hsz]; omega
 ·show ((Sort.putRow enc (Sort.ahead w m) g 0 d).heap ++ os)[b]? = _
  rw [Array.getElem?_append_left (by rw [hsz]; exact hb)]
  exact mapBlock_other (w := Sort.ahead w m) (fun e => hne (by rw [e]))
 ·show w.drawn ≤ w.drawn + m; omega
 ·show ((Sort.putRow enc (Sort.ahead w m) g 0 d).heap ++ os)[g]? = _
  rw [Array.getElem?_append_left (by rw [hsz]; exact hlt)]
  show ((Sort.ahead w m).heap.modify g _)[g]? = _
  rw [Array.getElem?_modify, if_pos rfl]
  show (w.heap[g]?).map _ = _
  rw [hg]; rfl
 ·simp [Sort.putCells]
 ·apply List.ext_getElem?
  intro i
  rw [List.getElem?_take, List.getElem?_map]
  by_cases hi : i < d.size
  ·rw [if_pos hi]
   simp only [Sort.putCells, Array.getElem?_toList, Array.getElem?_mapIdx]
   have h1 : cur[i]? = some cur[i] := Array.getElem?_eq_getElem (by omega)
   have h2 : d[i]? = some d[i] := Array.getElem?_eq_getElem hi
   rw [h1, h2]
   simp [hi]
  ·rw [if_neg hi]
   have : d[i]? = none := Array.getElem?_eq_none (by omega)
   simp [this]
section
variable {P : Program} {r : Option Nat} {n : Cont} {p : List PanicEntry → Cont} {ops : Array Oper} {rest : List Oper} {d : Nat} {ty : TypeId} {pos : String} {af : Array Edge} {x : Fr} {Hs : List Hp} {σ : Owns} {L : Env}
theorem SortOK.swo {α : Type} {f : α → α → Option Int} {l : List α} (h : SortOK f l) : Sort.SWO (ltOf fun (a b : {x // x ∈ l}) => (f a.1 b.1).getD 0) ∧ (∀ a b : {x // x ∈ l}, ltOf (fun (a b : {x // x ∈ l}) => (f a.1 b.1).getD 0) a b = ltM f a.1 b.1) := by
 have key : ∀ a b : {x // x ∈ l}, ltOf (fun (a b : {x // x ∈ l}) => (f a.1 b.1).getD 0) a b = ltM f a.1 b.1 := fun a b => by
  obtain ⟨c, hc⟩ := h.some_ a.1 a.2 b.1 b.2
  simp [ltOf, ltM, hc]
 refine ⟨⟨fun a => by rw [key]; exact h.irr _ a.2, fun a b c h1 h2 => by rw [key] at *; exact h.tr _ a.2 _ b.2 _ c.2 h1 h2, fun a b c h1 h2 => ?_⟩, key⟩
 rw [key] at *
 cases h3 : ltM f a.1 c.1 with
 | false => rfl
 | true =>
  exfalso
  cases h4 : ltM f b.1 a.1 with
  | true =>
   have := h.tr _ b.2 _ a.2 _ c.2 h4 h3
   rw [this] at h2; cases h2
  | false =>
   have e := h.tot _ a.2 _ b.2 h1 h4
   rw [e] at h3
   rw [h3] at h2; cases h2
theorem merge_attach {α : Type} (f : α → α → Option Int) (l : List α) (lt : {x // x ∈ l} → {x // x ∈ l} → Bool) (h : ∀ a b, lt a b = ltM f a.1 b.1) : (l.attach.mergeSort fun a b => !lt b a).map (·.1) = l.mergeSort fun x y => !ltM f y x := by
 rw [List.map_mergeSort (s := fun x y => !ltM f y x) (fun a _ b _ => by rw [h b a])]
 congr 1
 exact List.attach_map_subtype_val l
theorem vis_sort {α : Type} [Inhabited α] {enc : α → Value} {M : Prop} {w0 w : World} {H0 : Hp} {g m : Nat} {d : Array α} {os : Array Obj} (hS : St M w0 H0 Hs σ w) {tg : Nat} {y : Own} (hy : getO σ tg = some y) (hg : y.foot = some g) : (vis w0 H0 σ w).le (hp (sortWorld enc w g 0 m d os)) := by
 intro b o hb
 have hw := hS.vis_le b o hb
 have hne : b ≠ g := by
  rintro rfl
  unfold vis at hb
  rw [if_pos ⟨tg, y, getO_mem hy, hg⟩] at hb
  cases hb
 have hlt : b < w.heap.size := (Array.getElem?_eq_some_iff.1 hw).1
 show ((Sort.putRow enc (Sort.ahead w m) g 0 d).heap ++ os)[b]? = _
 rw [Array.getElem?_append_left (by simp [Sort.putRow, Sort.mapBlock, Sort.ahead]; exact hlt)]
 exact (mapBlock_other (w := Sort.ahead w m) hne).trans hw
theorem cmp_of {α : Type} {H : Hp} {g : FuncId} {cb : List Value} {V V' : Hp → Value → α → Prop} {f : α → α → Option Int} (hF : FnV True P H (.func (.func g) #[] cb.toArray) (SF2 V V' (fun c => .int .i64 c) f)) :
  (∀ args w, (callFunc g args).run P w = .ok (.enter g args) w) ∧ ∀ w, H.le (hp w) → ∀ u v a b c, V H u a → V' H v b → f a b = some c → Calls P g (#[u, v] ++ cb.toArray) w fun e w' => e = .returned (.int .i64 c) ∧ ∃ q os', w' = Sort.grow (w.drewN q) os' := by
 obtain ⟨g', first, cap, e, hc, hr⟩ := hF
 simp only [Value.func.injEq, Fn.func.injEq] at e
 obtain ⟨rfl, h1, h2⟩ := e
 have h1' : first = [] := by simpa using h1.symm
 have h2' : cb = cap := by simpa using h2
 subst h1'; subst h2'
 refine ⟨hc, fun w hw u v a b c hu hv hfc => ?_⟩
 have := hr w H [u, v] (.int .i64 c) (Hp.le.refl _) hw ⟨u, v, a, b, c, rfl, hu, hv, hfc, rfl⟩
 have e2 : ([] ++ [u, v] ++ cb).toArray = #[u, v] ++ cb.toArray := by simp
 rw [e2] at this
 refine this.mono fun e w' he => ?_
 cases e with
 | returned z => exact ⟨by rw [he.1], ext_grow trivial he.2⟩
 | panicked _ => exact he.elim
 | outgrown => exact he.elim
end
end Pk
namespace Pk
open Go
theorem tv : True := ⟨⟩
theorem sj {α : Type} {x y : α} (h : some x = some y) : x = y := Option.some.inj h
section
variable {P : Program} {r : Option Nat} {ops : Array Oper} {ms : List Nat} {D : List Deferred} {k : Nat} {M : Prop} {w0 : World} {H0 : Hp} {Hs : List Hp} {σ : Owns} {L0 : Env} {i : Nat} {o : Oper} {rest : List Oper} {E : Env} {F : Facts} {d : Nat} {v : Value}
theorem dt {fin : Env → Facts → Prop} (hd : o.dst = some d) (hX : ∀ {K}, TG ⟨D, k, M, w0, H0⟩ (K :: Hs) σ (flt (o.looksAt ops) E ++ L0) (O P r ops (fun a' w' => ∃ (_ : Unit) (K' : Hp), K.le K' ∧ St M w0 H0 (K' :: Hs) σ w' ∧ a'.tmps[d]? = some v ∧ a'.defers = D ∧ True) (fun _ _ _ => False) [o]))
  (h : DF P r ops ms D k M w0 H0 Hs σ L0 fin (i + 1) rest ((d, v) :: E) F) : DF P r ops ms D k M w0 H0 Hs σ L0 fin i (o :: rest) E F :=
 .det hd (fun a w K hS hA _ => hX a w hS hA) h
theorem dc {us : List Nat} {T : List (Nat × Nat × Value)} {Sg : Option (Nat → Value → Owns)} {fin : Owns → Env → Facts → Prop} {prev : List (Nat × Owns)} (hne : us.contains i = false) (hb : hbB us ms i = true) (hp : HP (fun τ => τ = σ) (ms.getD i 0) prev) (hn : untaken T i = true) (hd : o.dst = some d)
  (hX : ∀ {K}, TG ⟨D, k, M, w0, H0⟩ (K :: Hs) σ (flt (o.looksAt ops) E ++ L0) (O P r ops (fun a' w' => ∃ (_ : Unit) (K' : Hp), K.le K' ∧ St M w0 H0 (K' :: Hs) σ w' ∧ a'.tmps[d]? = some v ∧ a'.defers = D ∧ True) (fun _ _ _ => False) [o]))
  (h : DC P r ops ms D k M w0 H0 Hs L0 us T Sg fin prev σ (i + 1) rest ((d, v) :: E) F) : DC P r ops ms D k M w0 H0 Hs L0 us T Sg fin prev σ i (o :: rest) E F :=
 .det (fun τ => τ = σ) hne rfl hb hp hn hd (fun τ hτ a w K hS hA _ => by subst hτ; exact hX a w hS hA) h
end
def gd (ops : Array Oper) (L : Env) (j : Nat) : Option Value := ((ops[j]?).bind (·.dst)).bind (lk L)
def eb (d k : Nat) (v : Option Value) : Option Value := bif Nat.blt d k then v else none
theorem eb_of {d k : Nat} {v : Option Value} {u : Value} (h : eb d k v = some u) : Nat.blt d k = true ∧ v = some u := by
 unfold eb at h
 cases hb : Nat.blt d k with
 | true => rw [hb] at h; exact ⟨rfl, h⟩
 | false => rw [hb] at h; cases h
theorem gd_of {ops : Array Oper} {L : Env} {j : Nat} {v : Value} (h : gd ops L j = some v) : ∃ dj, (ops[j]?).bind (·.dst) = some dj ∧ lk L dj = some v := by
 unfold gd at h
 cases hb : (ops[j]?).bind (·.dst) with
 | none => rw [hb] at h; cases h
 | some dj => rw [hb] at h; exact ⟨dj, rfl, h⟩
section
variable {P : Program} {r : Option Nat} {n : Cont} {p : List PanicEntry → Cont} {ops : Array Oper} {rest : List Oper} {d : Nat} {ty : TypeId} {pos : String} {af : Array Edge} {x : Fr} {Hs : List Hp} {σ : Owns} {L : Env}
theorem gt {op : Op} {dst : Option Nat} {j : Nat} {q : Prop} [Decidable q] (hq : q) (hb : gd ops L j = some (.bool (decide q))) (h : OG P r ops n p x Hs σ L (⟨dst, op, ty, pos, af, none⟩ :: rest)) : OG P r ops n p x Hs σ L (⟨dst, op, ty, pos, af, some (j, true)⟩ :: rest) := by
 obtain ⟨dj, h1, h2⟩ := gd_of hb
 exact gN h1 h2 (decide_eq_true hq) h
theorem gf {op : Op} {j : Nat} {q : Prop} [Decidable q] (hq : ¬ q) (hb : eb d x.k (gd ops L j) = some (.bool (decide q))) (h : OG P r ops n p x Hs σ ((d, undef) :: L) rest) : OG P r ops n p x Hs σ L (⟨some d, op, ty, pos, af, some (j, true)⟩ :: rest) := by
 obtain ⟨hd, hb⟩ := eb_of hb
 obtain ⟨dj, h1, h2⟩ := gd_of hb
 exact gF h1 h2 (decide_eq_false hq) hd h
theorem gt' {op : Op} {dst : Option Nat} {j : Nat} {q : Prop} [Decidable q] (hq : ¬ q) (hb : gd ops L j = some (.bool (decide q))) (h : OG P r ops n p x Hs σ L (⟨dst, op, ty, pos, af, none⟩ :: rest)) : OG P r ops n p x Hs σ L (⟨dst, op, ty, pos, af, some (j, false)⟩ :: rest) := by
 obtain ⟨dj, h1, h2⟩ := gd_of hb
 exact gN h1 h2 (decide_eq_false hq) h
theorem gf' {op : Op} {j : Nat} {q : Prop} [Decidable q] (hq : q) (hb : eb d x.k (gd ops L j) = some (.bool (decide q))) (h : OG P r ops n p x Hs σ ((d, undef) :: L) rest) : OG P r ops n p x Hs σ L (⟨some d, op, ty, pos, af, some (j, false)⟩ :: rest) := by
 obtain ⟨hd, hb⟩ := eb_of hb
 obtain ⟨dj, h1, h2⟩ := gd_of hb
 exact gF h1 h2 (decide_eq_true hq) hd h
theorem m1 {y : Operand} {v : Value} (hy : eb d x.k (ev L y) = some v) (h : OG P r ops n p x Hs σ ((d, v) :: L) rest) : OG P r ops n p x Hs σ L (⟨some d, .move y, ty, pos, af, none⟩ :: rest) := mv (eb_of hy).1 (eb_of hy).2 h
theorem a1 {y : Operand} {v : Value} (hy : eb d x.k (ev L y) = some v) (h : OG P r ops n p x Hs σ ((d, v) :: L) rest) : OG P r ops n p x Hs σ L (⟨some d, .assign y, ty, pos, af, none⟩ :: rest) := av (eb_of hy).1 (eb_of hy).2 h
theorem pt {c y z : Operand} {q : Prop} [Decidable q] {v : Value} (hq : q) (hc : ev L c = some (.bool (decide q))) (hv : eb d x.k (ev L y) = some v) (h : OG P r ops n p x Hs σ ((d, v) :: L) rest) : OG P r ops n p x Hs σ L (⟨some d, .pick c y z, ty, pos, af, none⟩ :: rest) := pT (eb_of hv).1 hc (decide_eq_true hq) (eb_of hv).2 h
theorem pf {c y z : Operand} {q : Prop} [Decidable q] {v : Value} (hq : ¬ q) (hc : ev L c = some (.bool (decide q))) (hv : eb d x.k (ev L z) = some v) (h : OG P r ops n p x Hs σ ((d, v) :: L) rest) : OG P r ops n p x Hs σ L (⟨some d, .pick c y z, ty, pos, af, none⟩ :: rest) := pF (eb_of hv).1 hc (decide_eq_false hq) (eb_of hv).2 h
theorem cu {M : Prop} {w0 : World} {H0 : Hp} {D : List Deferred} {k : Nat} {L' : Env} (h : Sub L L') : ∀ a w, St M w0 H0 Hs σ w → Has D k a L → St M w0 H0 Hs σ w ∧ Has D k a L' := fun a w hS hA => ⟨hS, hA.cut h⟩
end
end Pk
namespace Pk
open Go
abbrev Adr := Option Addr × Nat
abbrev Hd := Option Addr × Nat × Nat
def encV (h : Hd) : List Value := [.slice h.1 h.2.1 h.2.2]
def hdrs {α : Type} : List Adr → List (List α) → List Hd
 | a :: az, y :: g => (a.1, y.length, a.2) :: hdrs az g
 | _, _ => []
def grp {α : Type} (el : TypeId) (size : Nat) (enc : α → List Value) : Nat → List Adr → List (List α) → Owns
 | i, a :: az, y :: g => (i, .list a.1 a.2 el size enc y) :: grp el size enc (i + 1) az g
 | _, _, _ => []
structure Grid {α : Type} (hd : List Hd) (az : List Adr) (g : List (List α)) : Prop where
 len : az.length = g.length
 hd : hd = hdrs az g
section
variable {α : Type}
theorem hdrs_len : ∀ {az : List Adr} {g : List (List α)}, az.length = g.length → (hdrs az g).length = g.length
 | [], [], _ => rfl
 | a :: az, y :: g, h => by simp only [hdrs, List.length_cons] at *; rw [hdrs_len (by omega)]
 | [], _ :: _, h => by simp at h
 | _ :: _, [], h => by simp at h
theorem hdrs_get : ∀ {az : List Adr} {g : List (List α)} {j : Nat} {a : Adr} {y : List α}, az[j]? = some a → g[j]? = some y → (hdrs az g)[j]? = some (a.1, y.length, a.2)
 | [], _, _, _, _, h, _ => by simp at h
 | _ :: _, [], _, _, _, _, h => by simp at h
 | b :: az, z :: g, 0, a, y, h, h2 => by simp at h h2; subst h; subst h2; simp [hdrs]
 | b :: az, z :: g, j + 1, a, y, h, h2 => by
  have := hdrs_get (az := az) (g := g) (j := j) (a := a) (y := y) (by simpa using h) (by simpa using h2)
  simpa [hdrs] using this
theorem hdrs_set : ∀ {az : List Adr} {g : List (List α)} {j : Nat} {y z : List α}, g[j]? = some y → z.length = y.length → hdrs az (g.set j z) = hdrs az g
 | [], _, _, _, _, _, _ => by simp [hdrs]
 | _ :: _, [], _, _, _, h, _ => by simp at h
 | b :: az, x :: g, 0, y, z, h, h2 => by simp at h; subst h; simp [hdrs, h2]
 | b :: az, x :: g, j + 1, y, z, h, h2 => by
  have := hdrs_set (az := az) (g := g) (j := j) (y := y) (z := z) (by simpa using h) h2
  simpa [hdrs] using this
theorem hdrs_new : ∀ {az : List Adr} {g : List (List α)} {j : Nat} {a : Adr} {z : List α}, hdrs (az.set j a) (g.set j z) = (hdrs az g).set j (a.1, z.length, a.2)
 | [], _, _, _, _ => by simp [hdrs]
 | _ :: _, [], _, _, _ => by simp [hdrs]
 | b :: az, x :: g, 0, a, z => by simp [hdrs]
 | b :: az, x :: g, j + 1, a, z => by
  have := hdrs_new (az := az) (g := g) (j := j) (a := a) (z := z)
  simp [hdrs, this]
variable {hd : List Hd} {az : List Adr} {g : List (List α)} {j : Nat} {y z : List α} {ad : Option Addr} {cap : Nat}
theorem Grid.hlen (h : Grid hd az g) : hd.length = g.length := by rw [h.hd, hdrs_len h.len]
theorem Grid.at (h : Grid hd az g) (hy : g[j]? = some y) : ∃ ad cap, az[j]? = some (ad, cap) ∧ hd[j]? = some (ad, y.length, cap) := by
 have hj : j < az.length := by rw [h.len]; exact lt_of hy
 have ha : az[j]? = some az[j] := List.getElem?_eq_getElem hj
 refine ⟨az[j].1, az[j].2, ha, ?_⟩
 rw [h.hd]; exact hdrs_get ha hy
theorem Grid.put (h : Grid hd az g) (hy : g[j]? = some y) (hl : z.length = y.length) : Grid hd az (g.set j z) := ⟨by rw [h.len]; simp, by rw [hdrs_set hy hl]; exact h.hd⟩
theorem Grid.new (h : Grid hd az g) (j : Nat) (z : List α) (ad : Option Addr) (cap : Nat) : Grid (hd.set j (ad, z.length, cap)) (az.set j (ad, cap)) (g.set j z) := ⟨by simp [h.len], by rw [hdrs_new, h.hd]⟩
variable {el : TypeId} {size : Nat} {enc : α → List Value}
theorem gget : ∀ {az : List Adr} {g : List (List α)} {i j : Nat} {ad : Option Addr} {cap : Nat} {y : List α}, az[j]? = some (ad, cap) → g[j]? = some y → getO (grp el size enc i az g) (i + j) = some (.list ad cap el size enc y)
 | [], _, _, _, _, _, _, h, _ => by simp at h
 | _ :: _, [], _, _, _, _, _, _, h => by simp at h
 | b :: az, x :: g, i, 0, ad, cap, y, h, h2 => by
  simp at h h2; subst h; subst h2
  simp [grp, getO]
 | b :: az, x :: g, i, j + 1, ad, cap, y, h, h2 => by
  have := gget (az := az) (g := g) (i := i + 1) (j := j) (ad := ad) (cap := cap) (y := y) (by simpa using h) (by simpa using h2)
  rw [show i + 1 + j = i + (j + 1) by omega] at this
  simp only [grp, getO, beq_ne (show i ≠ i + (j + 1) by omega), cond_false]
  exact this
theorem gset : ∀ {az : List Adr} {g : List (List α)} {i j : Nat} {ad : Option Addr} {cap : Nat} {z : List α}, az[j]? = some (ad, cap) → setO (grp el size enc i az g) (i + j) (.list ad cap el size enc z) = grp el size enc i az (g.set j z)
 | [], _, _, _, _, _, _, h => by simp at h
 | _ :: _, [], _, _, _, _, _, _ => by simp [grp, setO]
 | b :: az, x :: g, i, 0, ad, cap, z, h => by
  simp at h; subst h
  simp [grp, setO]
 | b :: az, x :: g, i, j + 1, ad, cap, z, h => by
  have := gset (az := az) (g := g) (i := i + 1) (j := j) (ad := ad) (cap := cap) (z := z) (by simpa using h)
  rw [show i + 1 + j = i + (j + 1) by omega] at this
  simp only [grp, setO, beq_ne (show i ≠ i + (j + 1) by omega), cond_false, List.set_cons_succ, this]
theorem gk {σ : Owns} {i b j : Nat} {x : Own} {r : Option Own} (h : Nat.blt i b = true) (k : getO σ (b + j) = r) : getO ((i, x) :: σ) (b + j) = r := by
 have : i < b := by simpa using h
 simp only [getO, beq_ne (show i ≠ b + j by omega), cond_false, k]
theorem zk {σ σ' : Owns} {i b j : Nat} {x y : Own} (h : Nat.blt i b = true) (k : setO σ (b + j) y = σ') : setO ((i, x) :: σ) (b + j) y = (i, x) :: σ' := by
 have : i < b := by simpa using h
 simp only [setO, beq_ne (show i ≠ b + j by omega), cond_false, k]
end
theorem Apart_iff : ∀ {σ : Owns}, Apart σ ↔ (σ.map (·.2)).Pairwise apart
 | [] => by simp [Apart]
 | (i, x) :: σ => by
  simp only [Apart, List.map_cons, List.pairwise_cons, List.mem_map, Apart_iff (σ := σ)]
  refine and_congr ⟨?_, ?_⟩ Iff.rfl
  ·rintro h y ⟨⟨k, z⟩, hm, rfl⟩; exact h k z hm
  ·intro h k y hm; exact h y ⟨(k, y), hm, rfl⟩
theorem St.re {M : Prop} {w0 : World} {H0 : Hp} {Hs : List Hp} {σ σ' : Owns} {w : World} (h : St M w0 H0 Hs σ w) (hm : ∀ i z, (i, z) ∈ σ' → (∃ j, (j, z) ∈ σ) ∨ ∃ el size, z = .row none 0 el size 0 []) (ha : Apart σ') : St M w0 H0 Hs σ' w := by
 refine ⟨h.h0, h.ext, ?_, ?_, ha⟩
 ·intro H hH
  refine (h.le H hH).trans ?_
  intro b o hb
  unfold vis at hb ⊢
  split at hb
  ·cases hb
  ·rename_i hnf
   rw [if_neg ?_]
   ·exact hb
   ·rintro ⟨i, z, hz, hf⟩
    rcases hm i z hz with ⟨j, hj⟩ | ⟨el, size, rfl⟩
    ·exact hnf ⟨j, z, hj, hf⟩
    ·cases hf
 ·intro i z hz
  rcases hm i z hz with ⟨j, hj⟩ | ⟨el, size, rfl⟩
  ·exact h.own j z hj
  ·exact (h.nilRow 0 el size).own 0 _ List.mem_cons_self
theorem apart_nil (x : Own) (el : TypeId) (size : Nat) : apart (.row none 0 el size 0 []) x := fun b h => by cases h
theorem del_perm : ∀ {A : Owns} {t : Nat} {X : Own}, getO A t = some X → (A.map (·.2)).Perm (X :: (delO A t).map (·.2))
 | [], t, X, h => by simp [getO] at h
 | (i, x) :: A, t, X, h => by
  by_cases e : i = t
  ·subst e
   simp [getO] at h; subst h
   simp [delO]
  ·simp only [getO, beq_ne e, cond_false] at h
   simp only [delO, beq_ne e, cond_false, List.map_cons]
   exact ((del_perm h).cons x).trans (.swap X x _)
theorem pw_set {R : Own → Own → Prop} (hs : ∀ {x y}, R x y → R y x) {x : Own} : ∀ {l : List Own} {i : Nat}, (x :: l).Pairwise R → (l.set i x).Pairwise R
 | [], _, _ => by simp
 | y :: l, 0, h => by
  simp only [List.set_cons_zero, List.pairwise_cons] at *
  exact ⟨fun z hz => h.1 z (List.mem_cons_of_mem _ hz), h.2.2⟩
 | y :: l, i + 1, h => by
  simp only [List.set_cons_succ, List.pairwise_cons] at *
  refine ⟨fun z hz => ?_, pw_set hs (List.pairwise_cons.2 ⟨fun z hz => h.1 z (List.mem_cons_of_mem _ hz), h.2.2⟩)⟩
  rcases List.mem_or_eq_of_mem_set hz with h1 | rfl
  ·exact h.2.1 z h1
  ·exact hs (h.1 y List.mem_cons_self)
theorem grp_map {α : Type} {el : TypeId} {size : Nat} {enc : α → List Value} : ∀ {az : List Adr} {g : List (List α)} {i j : Nat} {ad : Option Addr} {cap : Nat} {l : List α}, (grp el size enc i (az.set j (ad, cap)) (g.set j l)).map (·.2) = ((grp el size enc i az g).map (·.2)).set j (.list ad cap el size enc l)
 | [], _, _, _, _, _, _ => by simp [grp]
 | _ :: _, [], _, _, _, _, _ => by simp [grp]
 | a :: az, y :: g, i, 0, ad, cap, l => by simp [grp]
 | a :: az, y :: g, i, j + 1, ad, cap, l => by
  have := grp_map (az := az) (g := g) (i := i + 1) (j := j) (ad := ad) (cap := cap) (l := l) (el := el) (size := size) (enc := enc)
  simp only [List.set_cons_succ, grp, List.map_cons, this]
section
variable {α : Type} {x : Fr} {Hs : List Hp} {σ : Owns} {L : Env} {N : Cont} {el : TypeId} {size : Nat} {enc : α → List Value} {az : List Adr} {g : List (List α)}
theorem TG.eq {σ' : Owns} (e : σ = σ') (h : TG x Hs σ' L N) : TG x Hs σ L N := e ▸ h
theorem TG.absorb (A : Owns) {B : Owns} (t : Nat) {b j : Nat} {ad : Option Addr} {cap : Nat} {l : List α} (ht : getO A t = some (.list ad cap el size enc l)) (hB : delO A t = B) (h : TG x Hs (B ++ grp el size enc b (az.set j (ad, cap)) (g.set j l)) L N) : TG x Hs (A ++ grp el size enc b az g) L N := by
 subst hB
 intro a w hS hA
 refine h a w (hS.re ?_ ?_) hA
 ·intro i z hz
  left
  rcases List.mem_append.1 hz with h1 | h1
  ·exact ⟨i, List.mem_append_left _ (delO_sub h1)⟩
  ·have h2 : z ∈ (grp el size enc b (az.set j (ad, cap)) (g.set j l)).map (·.2) := List.mem_map.2 ⟨_, h1, rfl⟩
   rw [grp_map] at h2
   rcases List.mem_or_eq_of_mem_set h2 with h3 | rfl
   ·obtain ⟨⟨k, z'⟩, h4, rfl⟩ := List.mem_map.1 h3
    exact ⟨k, List.mem_append_right _ h4⟩
   ·exact ⟨t, List.mem_append_left _ (getO_mem ht)⟩
 ·have ha := Apart_iff.1 hS.apart
  rw [Apart_iff]
  rw [List.map_append] at ha ⊢
  have hp := (del_perm ht).append_right ((grp el size enc b az g).map (·.2))
  have ha2 := (hp.pairwise_iff (R := apart) (fun h => apart_comm h)).1 ha
  rw [List.cons_append] at ha2
  have := pw_set (R := apart) (fun h => apart_comm h) (i := ((delO A t).map (·.2)).length + j) ha2
  rw [List.set_append_right _ _ (by omega), Nat.add_sub_cancel_left] at this
  rw [grp_map]
  exact this
theorem TG.gopen (el : TypeId) (size : Nat) (enc : α → List Value) (b n : Nat) (h : TG x Hs (σ ++ grp el size enc b (List.replicate n (none, 0)) (List.replicate n [])) L N) : TG x Hs σ L N := by
 have hall : ∀ (n b i : Nat) (z : Own), (i, z) ∈ grp el size enc b (List.replicate n (none, 0)) (List.replicate n []) → z = .row none 0 el size 0 [] := by
  intro n
  induction n with
  | zero => intro b i z h; simp [grp] at h
  | succ n ih =>
   intro b i z h
   simp only [List.replicate_succ, grp, List.mem_cons, Prod.mk.injEq] at h
   rcases h with ⟨_, rfl⟩ | h
   ·rfl
   ·exact ih _ _ _ h
 intro a w hS hA
 refine h a w (hS.re ?_ ?_) hA
 ·intro i z hz
  rcases List.mem_append.1 hz with h1 | h1
  ·exact .inl ⟨i, h1⟩
  ·exact .inr ⟨el, size, hall _ _ _ _ h1⟩
 ·rw [Apart_iff, List.map_append, List.pairwise_append]
  refine ⟨Apart_iff.1 hS.apart, ?_, ?_⟩
  ·refine List.Pairwise.imp_of_mem (R := fun _ _ => True) (fun {u v} hu hv _ => ?_) (List.pairwise_of_forall fun _ _ => trivial)
   obtain ⟨⟨i, z⟩, h1, rfl⟩ := List.mem_map.1 hu
   rw [hall _ _ _ _ h1]; exact apart_nil _ _ _
  ·intro u hu v hv
   obtain ⟨⟨i, z⟩, h1, rfl⟩ := List.mem_map.1 hv
   rw [hall _ _ _ _ h1]; exact apart_comm (apart_nil _ _ _)
end
structure BuildArr (P : Program) (t el : TypeId) (z : List Value) (size : Nat) : Prop where
 zero : ∃ v, cellsL v = z ∧ ∀ w, (zeroValue t).run P w = .ok v w
 desc : ∃ n, P.underlying t = some (.array n el)
 sz : ∀ w, (Go.sizeOf el).run P w = .ok size w
section
variable {P : Program} {r : Option Nat} {n : Cont} {p : List PanicEntry → Cont} {ops : Array Oper} {rest : List Oper} {d : Nat} {ty : TypeId} {pos : String} {af : Array Edge} {x : Fr} {Hs : List Hp} {σ : Owns} {L : Env}
theorem buA {t el : TypeId} {xs : List (Nat × Operand)} {vs : List (Nat × Value)} {z cs : List Value} {size : Nat} (hb : BuildArr P t el z size) (hd : Nat.blt d x.k = true) (hx : evParts L xs = some vs) (hf : fillL (fun i => some (i * size, size)) z vs = some cs) (h : OG P r ops n p x Hs σ ((d, .agg cs.toArray) :: L) rest) : OG P r ops n p x Hs σ L (⟨some d, .build t xs.toArray, ty, pos, af, none⟩ :: rest) := fun c w hS hA => by
 obtain ⟨v, hv, hz⟩ := hb.zero
 obtain ⟨m, hu⟩ := hb.desc
 have hm := evParts_map hA hx
 have hfill : Instr.fill (fun i => some (i * size, size)) v.cells vs = some cs.toArray := by rw [cells_L, hv, fill_eq, hf]; rfl
 have hrun : (Instr.build t vs.toArray).run P w = .ok (.agg cs.toArray) w := by
  simp only [Instr.build, Sem.run_bind, hz, run_underlying hu, Result.andThen, hb.sz, hfill]
  rfl
 exact O_run rfl (fun _ h => by cases h) (w' := w) (v := .agg cs.toArray) (by simp [execOp, hm, hrun]) (h _ w hS (hA.put hd _))
end
end Pk
namespace Pk
open Go Go.Proofs
theorem flatK_list {α : Type} [Inhabited α] {enc : α → List Value} {k : Nat} (hk : ∀ x, (enc x).length = k) (d : Array α) : (Sort.flatK enc k d).toList = d.toList.flatMap enc := by
  have hlen : (d.toList.flatMap enc).length = d.size * k := by rw [flat_len hk]; simp
  apply List.ext_getElem?
  intro t
  by_cases ht : t < d.size * k
  · have k0 : 0 < k := by rcases Nat.eq_zero_or_pos k with h | h
                          · subst h; simp at ht
                          · exact h
    have hq : t / k < d.size := Nat.div_lt_of_lt_mul (by rwa [Nat.mul_comm] at ht)
    have hr : t % k < k := Nat.mod_lt _ k0
    have h1 : d.toList[t / k]? = some d[t / k]! := by rw [Array.getElem?_toList, Array.getElem?_eq_getElem hq, getElem!_pos d _ hq]
    have h2 : ∀ q : α, (enc q)[t % k]? = some (enc q)[t % k]! := fun q => by
      rw [List.getElem?_eq_getElem (by rw [hk]; exact hr), getElem!_pos (enc q) _ (by rw [hk]; exact hr)]
    have h3 := flat_get hk d.toList (t / k) _ h1 (t % k) _ (h2 _)
    rw [show t / k * k + t % k = t by rw [Nat.mul_comm]; exact Nat.div_add_mod t k] at h3
    rw [h3, Array.getElem?_toList, Array.getElem?_eq_getElem (by simpa using ht), ← Sort.get_flatK enc k d t ht, getElem!_pos (Sort.flatK enc k d) t (by simpa using ht)]
  · rw [List.getElem?_eq_none (by simp; omega), List.getElem?_eq_none (by omega)]
section
variable {P : Program} {r : Option Nat} {n : Cont} {p : List PanicEntry → Cont} {ops : Array Oper} {rest : List Oper} {d : Nat} {ty : TypeId} {pos : String} {af : Array Edge} {x : Fr} {Hs : List Hp} {σ : Owns} {L : Env}
theorem srtK {α : Type} (tg : Nat) {enc : α → List Value} {k : Nat} (hk : ∀ x, (enc x).length = k) (h1 : ∀ x, (enc x).all (·.oneCell') = true) {l l' : List α} {f : α → α → Option Int} {fid : Nat} {z y s : Operand} {ats : Array TypeId} {ad : Option Addr} {cap nn : Nat} {el : TypeId} {g : FuncId} {cb : List Value} {V V' : Hp → Value → α → Prop}
  (hC : SrtK P fid k) (hcall : ∀ args w, (callFunc fid args).run P w = .ok (.enter fid args) w) (hd : Nat.blt d x.k = true) (hz : ev L z = some (.func (.func fid) #[] #[])) (hs : ev L s = some (.slice ad nn cap)) (hσ : getO σ tg = some (.list ad cap el k enc l)) (hn : nn = l.length) (hy : ev L y = some (.func (.func g) #[] cb.toArray))
  (hF : ∀ H, Les Hs H → FnV True P H (.func (.func g) #[] cb.toArray) (SF2 V V' (fun c => .int .i64 c) f)) (hV : ∀ H u, V H (.agg (enc u).toArray) u) (hV' : ∀ H u, V' H (.agg (enc u).toArray) u) (hso : sortO f l = some l')
  (h : OG P r ops n p x Hs (setO σ tg (.list ad cap el k enc l')) ((d, .tuple #[]) :: L) rest) : OG P r ops n p x Hs σ L (⟨some d, .call ⟨.value z, #[s, y], ats⟩, ty, pos, af, none⟩ :: rest) := fun a w hS hA => by
 subst hn
 obtain ⟨hok, hm⟩ := sortO_some hso
 obtain ⟨eg, hcmp⟩ := cmp_of (hF (vis x.w0 x.H0 σ w) fun i K hi => hS.at i hi)
 have hrow := hS.get hσ
 have hxs : evs L [s, y] = some [.slice ad l.length cap, .func (.func g) #[] cb.toArray] := by simp [evs, hs, hy]
 have fin : ∀ w', St x.M x.w0 x.H0 Hs (setO σ tg (.list ad cap el k enc l')) w' → O P r ops n p rest (a.put (some d) (.tuple #[])) w' := fun w' hS' => h _ w' hS' (hA.put hd _)
 have enterIt : ∀ R : Ending → World → Prop, Calls P fid #[.slice ad l.length cap, .func (.func g) #[] cb.toArray] w R → (∀ e w', R e w' → e = .returned (.tuple #[]) ∧ St x.M x.w0 x.H0 Hs (setO σ tg (.list ad cap el k enc l')) w') → O P r ops n p (⟨some d, .call ⟨.value z, #[s, y], ats⟩, ty, pos, af, none⟩ :: rest) a w := fun R hR hk => by
  refine O_enter rfl (fun _ h => by cases h) (run_call (xs := [s, y]) (first := #[]) (cap := #[]) hA hz hxs hcall) (by simpa using hR) ?_ ?_ ?_
  ·intro v w' hv
   obtain ⟨e, hS'⟩ := hk _ _ hv
   cases e
   exact fin w' hS'
  ·intro ch w' hv; cases (hk _ _ hv).1
  ·intro w' hv; cases (hk _ _ hv).1
 by_cases hl : l = []
 ·subst hl
  have hl' : l' = [] := by rw [← hm]; simp
  subst hl'
  refine enterIt _ (hC.1 ad cap _ w) fun e w' hw => ⟨hw.1, ?_⟩
  rw [hw.2]
  exact hS.as tg hσ rfl
 ·rcases hrow.2 with ⟨hn0, _⟩ | ⟨b, cap', cur, hv, _, hg, hnc, hcm, hcs, ht⟩
  ·simp only [Value.slice.injEq] at hn0
   exact absurd (List.eq_nil_of_length_eq_zero hn0.2.1) hl
  ·simp only [Value.slice.injEq] at hv
   obtain ⟨rfl, _, rfl⟩ := hv
   have hx0 : ∃ u, u ∈ l := List.exists_mem_of_ne_nil l hl
   haveI : Inhabited {u // u ∈ l} := ⟨⟨hx0.choose, hx0.choose_spec⟩⟩
   obtain ⟨hO, hlt⟩ := hok.swo
   have hk' : ∀ u : {u // u ∈ l}, (enc u.1).length = k := fun u => hk u.1
   have hatt : l.attach.flatMap (fun u => enc u.1) = l.flatMap enc := by
    rw [List.flatMap_def, List.flatMap_def]
    congr 1
    exact List.attach_map_val
   have hfl : (Sort.flatK (fun u : {u // u ∈ l} => enc u.1) k l.attach.toArray).toList = l.flatMap enc := by
    rw [flatK_list hk']; exact hatt
   have hsz : l.attach.toArray.size = l.length := by simp
   have hHolds : Sort.HoldsK (fun u : {u // u ∈ l} => enc u.1) k w b 0 l.attach.toArray := fun j hj => by
    rw [Sort.size_flatK, hsz] at hj
    have hj2 : j < (Sort.flatK (fun u : {u // u ∈ l} => enc u.1) k l.attach.toArray).size := by rw [Sort.size_flatK, hsz]; exact hj
    have hcj : cur[j]? = some ((Sort.flatK (fun u : {u // u ∈ l} => enc u.1) k l.attach.toArray)[j]!) := by
     have h0 : (cur.toList.take (l.length * k))[j]? = (l.flatMap enc)[j]? := by rw [ht]
     rw [List.getElem?_take, if_pos hj, Array.getElem?_toList] at h0
     rw [h0, ← hfl, Array.getElem?_toList, Array.getElem?_eq_getElem hj2, getElem!_pos (Sort.flatK (fun u : {u // u ∈ l} => enc u.1) k l.attach.toArray) j hj2]
    refine ⟨?_, ?_⟩
    ·unfold World.cell?
     rw [hg]
     simp only [Option.isSome_none, Bool.false_eq_true, if_false, Nat.zero_add, id]
     rw [hcj]
    ·unfold World.frozen?
     rw [hg]; simp
   have hcmp' : CmpLays P g cb.toArray (fun u : {u // u ∈ l} => enc u.1) k (fun a b => (f a.1 b.1).getD 0) b 0 l.attach.toArray.size w := fun m os dk _ u v => by
    obtain ⟨c, hc⟩ := hok.some_ u.1 u.2 v.1 v.2
    have := hcmp (sortWorldK (fun u : {u // u ∈ l} => enc u.1) k w b 0 m dk os) (vis_sort (enc := id) hS hσ rfl) (.agg (enc u.1).toArray) (.agg (enc v.1).toArray) u.1 v.1 c (hV _ _) (hV' _ _) hc
    have e3 : (f u.1 v.1).getD 0 = c := by rw [hc]; rfl
    show Calls P g _ _ fun e w' => e = .returned (.int .i64 ((f u.1 v.1).getD 0)) ∧ _
    rw [e3]
    exact this
   have hb : b < w.heap.size := (Array.getElem?_eq_some_iff.1 hg).1
   have hbig : l.attach.toArray.size < 4611686018427387904 := by
    rw [hsz]; exact Nat.lt_of_le_of_lt hok.small (by decide)
   have hT : ∀ u v : {u // u ∈ l}, ltOf (fun (a b : {u // u ∈ l}) => (f a.1 b.1).getD 0) u v = false → ltOf (fun (a b : {u // u ∈ l}) => (f a.1 b.1).getD 0) v u = false → u = v := fun u v h1 h2 => by
    rw [hlt] at h1 h2
    exact Subtype.ext (hok.tot _ u.2 _ v.2 h1 h2)
   have hcon := hC.2 {u // u ∈ l} inferInstance (fun u => enc u.1) hk' (fun u v hv => List.all_eq_true.1 (h1 u.1) v hv) (fun (a b : {u // u ∈ l}) => (f a.1 b.1).getD 0) hO g cb.toArray b 0 cap l.attach.toArray w eg hcmp' hHolds hb hbig hT
   rw [hsz] at hcon
   have hS2 : (l.attach.toArray.toList.mergeSort fun a b => !ltOf (fun (a b : {u // u ∈ l}) => (f a.1 b.1).getD 0) b a).flatMap (fun u => enc u.1) = l'.flatMap enc := by
    have := merge_attach f l _ hlt
    rw [hm] at this
    rw [← this, List.flatMap_map]
   have hS1 : (l.attach.toArray.toList.mergeSort fun a b => !ltOf (fun (a b : {u // u ∈ l}) => (f a.1 b.1).getD 0) b a).length = l.length := by
    rw [List.length_mergeSort]; exact List.length_attach
   generalize (l.attach.toArray.toList.mergeSort fun a b => !ltOf (fun (a b : {u // u ∈ l}) => (f a.1 b.1).getD 0) b a) = S at hcon hS1 hS2
   refine enterIt _ hcon fun e w' hw => ⟨hw.1, ?_⟩
   obtain ⟨_, m, os, rfl⟩ := hw
   have hms : (Sort.flatK (fun u : {u // u ∈ l} => enc u.1) k S.toArray).size = l.length * k := by rw [Sort.size_flatK, List.size_toArray, hS1]
   obtain ⟨hG, cur', hg', hcs', ht'⟩ := put_own (enc := id) (m := m) (os := os) (d := Sort.flatK (fun u : {u // u ∈ l} => enc u.1) k S.toArray) hg (by rw [hms, hcs]; exact Nat.mul_le_mul_right _ hnc)
   have hlen : l'.length = l.length := sortO_len hso
   refine hS.step hσ hG ?_ (fun b' hb' => .inl hb')
   refine ⟨by rw [flat_len hk], .inr ⟨b, cap, cur', by rw [hlen], Nat.zero_le _, hg', by omega, hcm, by rw [hcs', hcs], ?_⟩⟩
   rw [hms, List.map_id, flatK_list hk'] at ht'
   rw [hlen, ht']
   exact hS2
end
end Pk
namespace Pk
open Go
section
variable {P : Program} {r : Option Nat} {n : Cont} {p : List PanicEntry → Cont} {ops : Array Oper} {rest : List Oper} {d : Nat} {ty : TypeId} {pos : String} {af : Array Edge} {x : Fr} {Hs : List Hp} {σ : Owns} {L : Env}
end
end Pk
namespace Pk
open Go
section
variable {α : Type} {hd : List Hd} {az : List Adr} {g : List (List α)} {j : Nat} {ad : Option Addr} {cap : Nat} {el : TypeId} {size : Nat} {enc : α → List Value}
theorem hdrs_snoc : ∀ {az : List Adr} {g : List (List α)} {a : Adr} {l : List α}, az.length = g.length → hdrs (az ++ [a]) (g ++ [l]) = hdrs az g ++ [(a.1, l.length, a.2)]
 | [], [], _, _, _ => rfl
 | b :: az, y :: g, a, l, h => by
  have := hdrs_snoc (az := az) (g := g) (a := a) (l := l) (by simpa using h)
  simp only [List.cons_append, hdrs, this]
 | [], _ :: _, _, _, h => by simp at h
 | _ :: _, [], _, _, h => by simp at h
theorem Grid.snoc (h : Grid hd az g) (l : List α) (ad : Option Addr) (cap : Nat) : Grid (hd ++ [(ad, l.length, cap)]) (az ++ [(ad, cap)]) (g ++ [l]) := ⟨by simp [h.len], by rw [hdrs_snoc h.len, h.hd]⟩
theorem Grid.none (α : Type) : Grid (α := α) [] [] [] := ⟨rfl, rfl⟩
theorem grp_snoc : ∀ {az : List Adr} {g : List (List α)} {i : Nat} {l : List α}, az.length = g.length → (grp el size enc i (az ++ [(ad, cap)]) (g ++ [l])).map (·.2) = (grp el size enc i az g).map (·.2) ++ [.list ad cap el size enc l]
 | [], [], _, _, _ => rfl
 | b :: az, y :: g, i, l, h => by
  have := grp_snoc (az := az) (g := g) (i := i + 1) (l := l) (by simpa using h)
  simp only [List.cons_append, grp, List.map_cons, this]
 | [], _ :: _, _, _, h => by simp at h
 | _ :: _, [], _, _, h => by simp at h
theorem mem_snd {A : Owns} {z : Own} (h : z ∈ A.map (·.2)) : ∃ i, (i, z) ∈ A := by
 obtain ⟨⟨i, z'⟩, hm, rfl⟩ := List.mem_map.1 h
 exact ⟨i, hm⟩
theorem St.perm {M : Prop} {w0 : World} {H0 : Hp} {Hs : List Hp} {σ σ' : Owns} {w : World} {ns : List Own} (hS : St M w0 H0 Hs σ w) (hp : (σ'.map (·.2)).Perm (ns ++ σ.map (·.2))) (hn : ∀ z ∈ ns, ∃ el size, z = .row none 0 el size 0 []) : St M w0 H0 Hs σ' w := by
 refine hS.re (fun i z hz => ?_) ?_
 ·have : z ∈ ns ++ σ.map (·.2) := hp.subset (List.mem_map.2 ⟨_, hz, rfl⟩)
  rcases List.mem_append.1 this with h | h
  ·exact .inr (hn z h)
  ·exact .inl (mem_snd h)
 ·rw [Apart_iff, hp.pairwise_iff (fun h => apart_comm h), List.pairwise_append]
  refine ⟨?_, Apart_iff.1 hS.apart, ?_⟩
  ·refine List.Pairwise.imp_of_mem (R := fun _ _ => True) (fun {u v} hu hv _ => ?_) (List.pairwise_of_forall fun _ _ => trivial)
   obtain ⟨el, size, rfl⟩ := hn u hu
   exact apart_nil _ _ _
  ·intro u hu v hv
   obtain ⟨el, size, rfl⟩ := hn u hu
   exact apart_nil _ _ _
variable {x : Fr} {Hs : List Hp} {L : Env} {N : Cont}
theorem TG.absorbA (A : Owns) {B : Owns} (t : Nat) {b : Nat} {l : List α} (hG : Grid hd az g) (ht : getO A t = some (.list ad cap el size enc l)) (hB : delO A t = B) (h : TG x Hs (B ++ grp el size enc b (az ++ [(ad, cap)]) (g ++ [l])) L N) : TG x Hs (A ++ grp el size enc b az g) L N := by
 subst hB
 intro a w hS hA
 refine h a w (hS.perm (ns := []) ?_ (by simp)) hA
 rw [List.nil_append, List.map_append, List.map_append, grp_snoc hG.len]
 have hp := (del_perm ht).append_right ((grp el size enc b az g).map (·.2))
 refine List.Perm.trans ?_ hp.symm
 rw [← List.append_assoc, List.cons_append]
 exact List.perm_append_singleton _ _
theorem set_perm {α : Type} : ∀ {l : List α} {i : Nat} {x y : α}, l[i]? = some x → (x :: l.set i y).Perm (y :: l)
 | [], _, _, _, h => by simp at h
 | z :: l, 0, x, y, h => by simp at h; subst h; simp only [List.set_cons_zero]; exact .swap _ _ _
 | z :: l, i + 1, x, y, h => by
  have := set_perm (l := l) (i := i) (x := x) (y := y) (by simpa using h)
  simp only [List.set_cons_succ]
  exact (List.Perm.swap z x _).trans ((this.cons z).trans (.swap y z _))
theorem TG.focus (A : Owns) (t : Nat) {b : Nat} {l : List α} (ha : az[j]? = some (ad, cap)) (hg : g[j]? = some l) (h : TG x Hs ((t, .list ad cap el size enc l) :: (A ++ grp el size enc b (az.set j (none, 0)) (g.set j []))) L N) : TG x Hs (A ++ grp el size enc b az g) L N := by
 intro a w hS hA
 refine h a w (hS.perm (ns := [.row none 0 el size 0 []]) ?_ (by simp)) hA
 simp only [List.map_cons, List.map_append]
 rw [grp_map]
 have h0 : ((grp el size enc b az g).map (·.2))[j]? = some (.list ad cap el size enc l) := by
  clear hS hA h
  induction az generalizing g j b with
  | nil => simp at ha
  | cons a0 az ih =>
   cases g with
   | nil => simp at hg
   | cons y g =>
    cases j with
    | zero => simp at ha hg; subst ha; subst hg; simp [grp]
    | succ j => simp only [grp, List.map_cons, List.getElem?_cons_succ]; exact ih (by simpa using ha) (by simpa using hg)
 have hp := set_perm (y := Own.list (none : Option Addr) 0 el size enc ([] : List α)) h0
 have e0 : (Own.list (none : Option Addr) 0 el size enc ([] : List α)) = .row none 0 el size 0 [] := rfl
 rw [e0] at hp ⊢
 refine List.Perm.trans (List.perm_middle.symm) ?_
 refine List.Perm.trans (List.Perm.append_left _ hp) ?_
 exact List.perm_middle
end
end Pk
namespace Pk
open Go Go.Proofs
def Ins1 (P : Program) (f : FuncId) (el : TypeId) (k : Nat) : Prop :=
 ∀ (w : World) (ad : Option Addr) (cap nn : Nat) (cs : List Value) (j : Nat) (q : Addr) (vcap : Nat) (vs : List Value),
  (Own.row ad cap el k nn cs).holds w → j ≤ nn → nn + 1 ≤ 1073741824 → CellsAt (hp w) q vs → vs.length = k → vs.all (·.oneCell') = true → cs.all (·.oneCell') = true → (∀ b, ad.map (·.block) = some b → b ≠ q.block) → 1 ≤ vcap →
  Calls P f #[.slice ad nn cap, .int .i64 j, .slice (some q) 1 vcap] w fun e w' => ∃ ad' cap', e = .returned (.slice ad' (nn + 1) cap') ∧ (Own.row ad' cap' el k (nn + 1) (cs.take (j * k) ++ vs ++ cs.drop (j * k))).holds w' ∧ Grown w w' (ad.map (·.block)) ∧ ∀ b, ad'.map (·.block) = some b → ad.map (·.block) = some b ∨ w.heap.size ≤ b
theorem flat_take {α : Type} {enc : α → List Value} {k : Nat} (he : ∀ x, (enc x).length = k) : ∀ (l : List α) (j : Nat), (l.flatMap enc).take (j * k) = (l.take j).flatMap enc
 | [], j => by simp
 | y :: l, 0 => by simp
 | y :: l, j + 1 => by
  have := flat_take he l j
  simp only [List.flatMap_cons, List.take_succ_cons]
  rw [List.take_append, he, show (j + 1) * k - k = j * k by rw [Nat.add_mul]; omega, this, List.take_of_length_le (by rw [he, Nat.add_mul]; omega)]
theorem flat_drop {α : Type} {enc : α → List Value} {k : Nat} (he : ∀ x, (enc x).length = k) : ∀ (l : List α) (j : Nat), (l.flatMap enc).drop (j * k) = (l.drop j).flatMap enc
 | [], j => by simp
 | y :: l, 0 => by simp
 | y :: l, j + 1 => by
  have := flat_drop he l j
  simp only [List.flatMap_cons, List.drop_succ_cons]
  rw [List.drop_append, he, show (j + 1) * k - k = j * k by rw [Nat.add_mul]; omega, this, List.drop_of_length_le (by rw [he, Nat.add_mul]; omega), List.nil_append]
theorem add2 (q : Addr) (a b : Nat) : (q.add a).add b = q.add (a + b) := by
 unfold Addr.add
 by_cases ha : a = 0 <;> by_cases hb : b = 0 <;> simp [ha, hb, Nat.add_assoc]
theorem ad2 {q : Addr} {a b : Nat} {u : Operand} {L : Env} (h : ev L u = some (.pointer (some ((q.add a).add b)))) : ev L u = some (.pointer (some (q.add (a + b)))) := by
 rw [h, add2]
theorem ad3 {q : Addr} {a b c : Nat} {u : Operand} {L : Env} (h : ev L u = some (.pointer (some (((q.add a).add b).add c)))) : ev L u = some (.pointer (some (q.add (a + (b + c))))) := by
 rw [h, add2, add2]
section
variable {P : Program} {r : Option Nat} {n : Cont} {p : List PanicEntry → Cont} {ops : Array Oper} {rest : List Oper} {d : Nat} {ty : TypeId} {pos : String} {af : Array Edge} {x : Fr} {Hs : List Hp} {σ : Owns} {L : Env}
theorem insO {α : Type} (tg : Nat) {enc : α → List Value} {k : Nat} (hk0 : Nat.blt 0 k = true) (he : ∀ x, (enc x).length = k) (h1 : ∀ x, (enc x).all (·.oneCell') = true) (j : Nat) (x1 : α) {l : List α} {fid : Nat} {z y s v : Operand} {ats : Array TypeId} {ad : Option Addr} {cap nn : Nat} {el : TypeId} {vad : Option Addr} {vcap : Nat} {m : Int} {K : Hp}
  (hC : Ins1 P fid el k) (hcall : ∀ args w, (callFunc fid args).run P w = .ok (.enter fid args) w) (hd : Nat.blt d x.k = true) (hz : ev L z = some (.func (.func fid) #[] #[])) (hs : ev L s = some (.slice ad nn cap)) (hσ : getO σ tg = some (.list ad cap el k enc l)) (hn : nn = l.length) (hy : ev L y = some (.int .i64 m)) (hv : ev L v = some (.slice vad 1 vcap)) (hl : Sl (Flat enc) k K vad vcap [x1]) (i : Nat) (hK : Hs[i]? = some K) (hm : m = (j : Int)) (hj : j ≤ l.length) (hb : l.length + 1 ≤ 1073741824)
  (h : ∀ ad' cap', OG P r ops n p x Hs (setO σ tg (.list ad' cap' el k enc (l.take j ++ [x1] ++ l.drop j))) ((d, .slice ad' (l.take j ++ [x1] ++ l.drop j).length cap') :: L) rest) : OG P r ops n p x Hs σ L (⟨some d, .call ⟨.value z, #[s, y, v], ats⟩, ty, pos, af, none⟩ :: rest) := fun a w hS hA => by
 subst hn; subst hm
 have hrow := hS.get hσ
 obtain ⟨q, cs', e1, hspot, hlen, hcells, hR⟩ := hl.2 0 x1 rfl
 subst e1
 have hq : CellsAt (vis x.w0 x.H0 σ w) q (enc x1) := by
  have h0 := hcells.mono (hS.at i hK)
  have e2 : q.add (0 * k) = q := by simp [Addr.add]
  rw [e2] at h0
  have e3 : cs' = enc x1 := hR
  rw [e3] at h0; exact h0
 have hxs : evs L [s, y, v] = some [.slice ad l.length cap, .int .i64 (j : Int), .slice (some q) 1 vcap] := by simp [evs, hs, hy, hv]
 have hlt : (l.take j ++ [x1] ++ l.drop j).length = l.length + 1 := by simp; omega
 have hflat : (l.flatMap enc).take (j * k) ++ enc x1 ++ (l.flatMap enc).drop (j * k) = (l.take j ++ [x1] ++ l.drop j).flatMap enc := by
  rw [flat_take he, flat_drop he]; simp
 have hone : (l.flatMap enc).all (·.oneCell') = true := by
  rw [List.all_eq_true]
  intro u hu
  obtain ⟨y', _, hu⟩ := List.mem_flatMap.1 hu
  exact List.all_eq_true.1 (h1 y') u hu
 have hcon := hC w ad cap l.length (l.flatMap enc) j q vcap (enc x1) hrow hj hb (hq.mono hS.vis_le) (he x1) (h1 x1) hone (fun b hb' e => by
  have hk1 : 0 < (enc x1).length := by rw [he]; simpa using hk0
  have hget : (enc x1)[0]? = some (enc x1)[0] := List.getElem?_eq_getElem hk1
  obtain ⟨c, ty', fz, h3, _⟩ := hq.2 0 _ hget
  unfold vis at h3
  rw [if_pos ⟨tg, _, getO_mem hσ, by rw [← e]; exact hb'⟩] at h3
  cases h3) (by have := hl.1.1; simpa using this)
 have enterIt : ∀ R : Ending → World → Prop, Calls P fid #[.slice ad l.length cap, .int .i64 (j : Int), .slice (some q) 1 vcap] w R → (∀ e w', R e w' → ∃ ad' cap', e = .returned (.slice ad' (l.length + 1) cap') ∧ St x.M x.w0 x.H0 Hs (setO σ tg (.list ad' cap' el k enc (l.take j ++ [x1] ++ l.drop j))) w') → O P r ops n p (⟨some d, .call ⟨.value z, #[s, y, v], ats⟩, ty, pos, af, none⟩ :: rest) a w := fun R hR hk => by
  refine O_enter rfl (fun _ h => by cases h) (run_call (xs := [s, y, v]) (first := #[]) (cap := #[]) hA hz hxs hcall) (by simpa using hR) ?_ ?_ ?_
  ·intro u w' hv
   obtain ⟨ad', cap', e, hS'⟩ := hk _ _ hv
   cases e
   have := h ad' cap' _ w' hS' (hA.put hd (.slice ad' (l.take j ++ [x1] ++ l.drop j).length cap'))
   rw [hlt] at this
   exact this
  ·intro ch w' hv; obtain ⟨_, _, e, _⟩ := hk _ _ hv; cases e
  ·intro w' hv; obtain ⟨_, _, e, _⟩ := hk _ _ hv; cases e
 refine enterIt _ hcon fun e w' hw => ?_
 obtain ⟨ad', cap', he', hh, hG, hf⟩ := hw
 refine ⟨ad', cap', he', ?_⟩
 refine hS.step hσ hG ?_ hf
 unfold Own.list
 rw [hlt, ← hflat]; exact hh
theorem lnE {y : Operand} {t el : TypeId} {ad : Option Addr} {l m c : Nat} (e : l = m) (hu : P.underlying t = some (.slice el)) (hd : Nat.blt d x.k = true) (hy : ev L y = some (.slice ad l c)) (h : OG P r ops n p x Hs σ ((d, .int .i64 (m : Int)) :: L) rest) : OG P r ops n p x Hs σ L (⟨some d, .call ⟨.builtin .len, #[y], #[t]⟩, ty, pos, af, none⟩ :: rest) := by
 subst e; exact lnL hu hd hy h
end
end Pk
namespace Pk
open Go
section
variable {α : Type} {hd : List Hd} {az : List Adr} {g : List (List α)} {ad : Option Addr} {cap : Nat} {el iel : TypeId} {size : Nat} {enc : α → List Value}
variable {x : Fr} {Hs : List Hp} {σ : Owns} {L : Env} {N : Cont}
theorem St.seen {w0 : World} {H0 : Hp} {w : World} {σ' : Owns} {b : Nat} {o : Obj} (hb : w0.heap.size ≤ b) (hn : ¬ footed σ' b) (ho : w.heap[b]? = some o) : vis w0 H0 σ' w b = some o := by
 unfold vis
 rw [if_neg hn, if_neg (by omega)]; exact ho
theorem TG.stillG (A : Owns) {B : Owns} (t : Nat) {b : Nat} (hG : Grid hd az g) (ht : getO A t = some (.list ad cap el 1 encV hd)) (hB : delO A t = B) (he : ∀ x, (enc x).length = size) (h : ∀ K, Sl (RSl (Flat enc) size) 1 K ad cap g → TG x (K :: Hs) B L N) : TG x Hs (A ++ grp iel size enc b az g) L N := by
 subst hB
 intro a w hS hA
 have hp : ((A ++ grp iel size enc b az g).map (·.2)).Perm (Own.list ad cap el 1 encV hd :: ((delO A t).map (·.2) ++ (grp iel size enc b az g).map (·.2))) := by
  rw [List.map_append]
  exact (del_perm ht).append_right _
 have hpw := (hp.pairwise_iff (R := apart) (fun h => apart_comm h)).1 (Apart_iff.1 hS.apart)
 rw [List.pairwise_cons, List.pairwise_append] at hpw
 obtain ⟨hX, hB1, _, hBG⟩ := hpw
 have hS' : St x.M x.w0 x.H0 Hs (delO A t) w := hS.re (fun i z hz => .inl ⟨i, List.mem_append_left _ (delO_sub hz)⟩) (Apart_iff.2 hB1)
 have hS2 : St x.M x.w0 x.H0 (vis x.w0 x.H0 (delO A t) w :: Hs) (delO A t) w := by
  refine ⟨hS'.h0, hS'.ext, fun H hH => ?_, hS'.own, hS'.apart⟩
  rcases List.mem_cons.1 hH with rfl | hH
  ·exact Hp.le.refl _
  ·exact hS'.le H hH
 have hfoot : ∀ z : Own, (∀ u ∈ (delO A t).map (·.2), apart z u) → ∀ c, z.foot = some c → ¬ footed (delO A t) c := by
  rintro z hz c hc ⟨i, u, hu, hf⟩
  exact hz u (List.mem_map.2 ⟨_, hu, rfl⟩) c hc hf
 have hXo := hS.own t _ (List.mem_append_left _ (getO_mem ht))
 have hout : Sl (Flat encV) 1 (vis x.w0 x.H0 (delO A t) w) ad cap hd := list_sl (H := vis x.w0 x.H0 (delO A t) w) (enc := encV) (size := 1) (fun _ => rfl) hXo.1 (fun c hc o ho => St.seen (hXo.2 c hc) (hfoot _ (fun u hu => hX u (List.mem_append_left _ hu)) c hc) ho)
 refine h _ ⟨⟨by rw [← hG.hlen]; exact hout.1.1, hout.1.2⟩, fun i y hy => ?_⟩ a w hS2 hA
 obtain ⟨ad', cp, ha, hh⟩ := hG.at hy
 obtain ⟨p, cs, e1, e2, e3, e4, e5⟩ := hout.2 i _ hh
 have hm := getO_mem (gget (el := iel) (size := size) (enc := enc) (i := b) ha hy)
 have hio := hS.own (b + i) _ (List.mem_append_right _ hm)
 refine ⟨p, cs, e1, e2, e3, e4, ad', cp, e5, list_sl (H := vis x.w0 x.H0 (delO A t) w) he hio.1 (fun c hc o ho => St.seen (hio.2 c hc) (hfoot _ (fun u hu => apart_comm (hBG u hu _ (List.mem_map.2 ⟨_, hm, rfl⟩))) c hc) ho)⟩
theorem TG.stillC (t : Nat) {b : Nat} {ty : TypeId} {cs : List Value} (ht : getO σ t = some (cel b ty cs)) (h : ∀ K, CellsAt K ⟨b, 0, none⟩ cs → TG x (K :: Hs) (delO σ t) L N) : TG x Hs σ L N := by
 intro a w hS hA
 refine h _ ?_ a w (hS.rest (t := t)) hA
 have hho := hS.get ht
 have hf : ∀ c, (cel b ty cs).foot = some c → x.w0.heap.size ≤ c := (hS.own t _ (getO_mem ht)).2
 refine ⟨rfl, fun j v hj => ⟨cs.toArray, ty, (0, 0), hS.rest_vis ht hf rfl hho, ?_⟩⟩
 simpa using hj
theorem TG.apJ {D : List Deferred} {k : Nat} {M : Prop} {w0 : World} {H0 : Hp} {a : Act} {w : World} {Hs' : List Hp} {σ' : Owns} {L' : Env} (h : TG ⟨D, k, M, w0, H0⟩ Hs σ L (fun a w => St M w0 H0 Hs' σ' w ∧ Has D k a L')) (hS : St M w0 H0 Hs σ w) (hA : Has D k a L) : St M w0 H0 Hs' σ' w ∧ Has D k a L' := h a w hS hA
end
end Pk
namespace Pk
open Go
inductive Any where
 | i (n : Int)
 | s (b : Bytes)
deriving DecidableEq, Inhabited
def anyV : Any → Value
 | .i n => .iface 3 (.int .i64 n)
 | .s b => .iface 9 (.string (bs b))
def encAny (x : Any) : List Value := [anyV x]
section
variable {P : Program} {r : Option Nat} {n : Cont} {p : List PanicEntry → Cont} {ops : Array Oper} {rest : List Oper} {d : Nat} {ty : TypeId} {pos : String} {af : Array Edge} {x : Fr} {Hs : List Hp} {σ : Owns} {L : Env}
end
end Pk
namespace Pk
open Go Go.Proofs
theorem rihS {H : Type} {enc : TypeId × Value → H} {C : Checked} {os : Os} {f : FuncId} {fn : Func} {s : ChangeSpec} {cd : List PathCond} {X : World → Prop} (hX : ∀ w w' : World, w.heap = w'.heap → X w → X w')
  (own : ownKnob C.prog.godebug = none) (st : os.Started) (ni : C.prog.inits.idxOf? f = none) (hfn : C.prog.funcs[f]? = some fn)
  (wit : ∃ (w : World) (tape : Tape) (i : Input), w.os = os ∧ (w.forCall tape i).Shaped C.prog ∧ i.vars = [] ∧ Input.okWide C.prog (w.forCall tape i) .any w.heap.size f i ∧
   ((s.pre enc C.prog fn cd false (w.forCall tape i).memory i.args ∧ X (w.forCall tape i).memory) ∧ sizedMet enc C.prog fn (OpenSpec.ofChange s) false (w.forCall tape i).memory i.args) ∧ ({} : Assume).holds C.prog (lone (Frame.enter C.prog f i.args .normal) [] (w.forCall tape i)))
  (main : ∀ (W : World) (base : Nat) (args : Array Value) (ds gs : List (DataW H)) (before : List MemPlace), (∀ (j : Nat) t v, fn.params[j]? = some t → args[j]? = some v → Value.okWide C.prog W .any base t v) →
   DataW.Whole enc C.prog fn.params.toList s.vars false W args.toList ds gs before → (DataW.weightsEach C.prog (fn.params.toList ++ s.plain.varTypes C.prog) (ds ++ gs)).all (· ≤ reachBytes) = true → X W → W.ShapedOpen C.prog →
   Calls C.prog f args W fun e W' => ∃ v, e = .returned v ∧ s.post enc C.prog fn false true false false W args v W') :
  ReturnsInHanded {} C os f .any (fun w args => (s.pre enc C.prog fn cd false w args ∧ X w) ∧ sizedMet enc C.prog fn (OpenSpec.ofChange s) false w args) (s.post enc C.prog fn false true false false) := by
 refine returnsInHanded_of_calls own st ni wit fun w tape i _ hsh _ hok hpre _ => ?_
 obtain ⟨_, _, _, fn', hfn', _, _, _, _, hval⟩ := hok
 obtain rfl : fn' = fn := Option.some.inj (hfn'.symm.trans hfn)
 obtain ⟨⟨⟨ds, gs, before, hw, _⟩, hx⟩, hz⟩ := hpre
 refine (main (w.forCall tape i) w.heap.size i.args ds gs before hval (DataW.Whole.of_heap (w' := w.forCall tape i) (by rfl) hw) (hz.weights hw) (hX _ _ (by rfl) hx) hsh).mono fun e W' h => ?_
 obtain ⟨v, rfl, hp⟩ := h
 exact ChangeSpec.post_blind hp
theorem cells_one {w : World} {g : Nat} {v : Value} (h : w.cell? ⟨g, 0, none⟩ = some v) : CellsAt (hp w) ⟨g, 0, none⟩ [v] := by
 refine ⟨rfl, fun j u hu => ?_⟩
 cases j with
 | succ j => simp at hu
 | zero =>
  obtain rfl : v = u := by simpa using hu
  unfold World.cell? at h
  simp only [] at h
  cases hb : w.heap[g]? with
  | none => simp [hb] at h
  | some o =>
   cases o <;> simp [hb] at h
   rename_i cs t z
   exact ⟨cs, t, z, hb, by simpa using h⟩
end Pk
namespace Pk
open Go Go.Proofs
section
variable {P : Program} {r : Option Nat} {n : Cont} {p : List PanicEntry → Cont} {ops : Array Oper} {rest : List Oper} {d : Nat} {ty : TypeId} {pos : String} {af : Array Edge} {x : Fr} {Hs : List Hp} {σ : Owns} {L : Env}
end
end Pk
namespace Pk
open Go Go.Proofs
abbrev thr (v : Value) : List PanicEntry := [{ v := v, recovered := false }]
def RetT {α : Type} (M : Prop) (W : World) (f : α → Value) (tv : Value) (o : α ⊕ Unit) : Ending → World → Prop := fun e w => match o with
 | .inl r => e = .returned (f r) ∧ Ext M W w
 | .inr _ => e = .panicked (thr tv) ∧ Ext M W w
theorem rtT_ret {α : Type} {M : Prop} {W w : World} {f : α → Value} {tv v : Value} {r : α} (h : v = f r) (hE : Ext M W w) : RetT M W f tv (.inl r) (.returned v) w := ⟨by rw [h], hE⟩
theorem rtT_pan {α : Type} {M : Prop} {W w : World} {f : α → Value} {tv : Value} {u : Unit} (hE : Ext M W w) : RetT M W f tv (.inr u) (.panicked (thr tv)) w := ⟨rfl, hE⟩
section
variable {P : Program} {r : Option Nat} {n : Cont} {p : List PanicEntry → Cont} {ops : Array Oper} {rest : List Oper} {dst : Option Nat} {ty : TypeId} {pos : String} {af : Array Edge} {x : Fr} {Hs : List Hp} {σ : Owns} {L : Env}
theorem pnc {y : Operand} {t : TypeId} {v : Value} (hy : ev L y = some (.iface t v)) (h : TG x Hs σ L (p (thr (.iface t v)))) : OG P r ops n p x Hs σ L (⟨dst, .panic y, ty, pos, af, none⟩ :: rest) := fun a w hS hA => by
 show O P r ops n p _ a w
 simp only [O, Region.wanted, if_true]
 refine ⟨fun _ _ => trivial, ?_⟩
 rw [Oper.semAt_eq _ _ _ (fun c h => by cases h)]
 have e : (execOp a.eval ⟨dst, .panic y, ty, pos, af, none⟩).run P w = .halt (.panic (.iface t v)) w := by
  simp [execOp, hA.eval hy, Instr.panic, goPanic]
 rw [e]
 exact h a w hS hA
theorem clIT {y : Operand} {xs : List Operand} {ats : Array TypeId} {f : FuncId} {fnc : Func} {cd : Code} {nt : Nat} {first cap : List Value} {vs args : List Value} (hcall : ∀ args w, (callFunc f args).run P w = .ok (.enter f args) w) (hfn : P.funcs[f]? = some fnc) (hb : fnc.body = some cd) (hn : fnc.ntmps = nt) (hf : ev L y = some (.func (.func f) first.toArray cap.toArray)) (hxs : evs L xs = some vs) (hargs : first ++ vs ++ cap = args) (hl : Nat.ble args.length nt = true) (J : Value → World → Prop) (R : Ending → World → Prop) (hp : ∀ ch a w, Has x.D x.k a L → R (.panicked ch) w → p ch a w)
  (h1 : TG ⟨[], nt, x.M, x.w0, x.H0⟩ Hs σ (envOf 0 args) (W P none cd (Rt P fnc fun e w => ∃ v, e = .returned v ∧ J v w) (Rt P fnc fun e w => ∃ v, e = .returned v ∧ J v w) [] (fun ch a w => a.defers = [] ∧ R (.panicked ch) w)))
  (h2 : ∀ a w v, Has x.D x.k a L → J v w → O P r ops n p rest (a.put dst v) w) : OG P r ops n p x Hs σ L (⟨dst, .call ⟨.value y, xs.toArray, ats⟩, ty, pos, af, none⟩ :: rest) := fun c w hS hA => by
 subst hargs
 have hcs : Calls P f (first ++ vs ++ cap).toArray w (fun e w => (∃ v, e = .returned v ∧ J v w) ∨ ∃ ch, e = .panicked ch ∧ R e w) := enter hfn hb hn hl fun a hA' => by
  refine W_mono ?_ ?_ (fun _ K _ _ hK h => ⟨K, hK, h⟩) (fun ch _ _ h => ⟨h.1, .inr ⟨ch, rfl, h.2⟩⟩) (h1 a w hS hA')
  ·exact fun a w ⟨h1, v, h2, h3⟩ => ⟨h1, v, h2, .inl h3⟩
  ·exact fun a w ⟨h1, v, h2, h3⟩ => ⟨h1, v, h2, .inl h3⟩
 obtain ⟨Q, hQ⟩ : ∃ Q : Ending → World → Prop, Q = fun e w => (∃ v, e = .returned v ∧ J v w) ∨ ∃ ch, e = .panicked ch ∧ R e w := ⟨_, rfl⟩
 rw [← hQ] at hcs
 refine O_enter rfl (fun _ h => by cases h) (run_call hA hf hxs hcall) (by simpa using hcs) ?_ ?_ ?_ <;> rw [hQ]
 ·rintro v w' (⟨u, hu, hJ⟩ | ⟨ch, hu, _⟩)
  ·cases hu; exact h2 c w' v hA hJ
  ·cases hu
 ·rintro ch w' (⟨u, hu, _⟩ | ⟨ch', hu, hR⟩)
  ·cases hu
  ·exact hp ch c w' hA hR
 ·rintro w' (⟨u, hu, _⟩ | ⟨ch, hu, _⟩) <;> cases hu
end
end Pk
namespace Pk
open Go Go.Proofs
section
variable {P : Program} {r : Option Nat} {n rt : Cont} {e : List (Nat × Cont)} {p : List PanicEntry → Cont} {a : Act} {w : World}
variable {D : List Deferred} {k : Nat} {L : Env} {ops : Array Oper} {rest : List Oper} {d : Nat} {ty : TypeId} {pos : String} {af : Array Edge} {dst : Option Nat}
variable {M : Prop} {w0 : World} {H0 : Hp} {Hs : List Hp} {σ : Owns}
end
section
variable {P : Program} {r : Option Nat} {n : Cont} {p : List PanicEntry → Cont} {ops : Array Oper} {rest : List Oper} {d : Nat} {ty : TypeId} {pos : String} {af : Array Edge} {x : Fr} {Hs : List Hp} {σ : Owns} {L : Env}
end
end Pk
namespace Pk
open Go Go.Proofs
end Pk
namespace Pk
open Go Go.Proofs
end Pk
namespace Pk
open Go Go.Proofs
section
variable {P : Program} {r : Option Nat} {n : Cont} {p : List PanicEntry → Cont} {ops : Array Oper} {rest : List Oper} {d : Nat} {ty : TypeId} {pos : String} {af : Array Edge} {x : Fr} {Hs : List Hp} {σ : Owns} {L : Env}
theorem len1 {α : Type} (x : α) : ([x] : List α).length = 1 := rfl
end
end Pk
namespace Pk
open Go Go.Proofs
section
variable {x : Fr} {Hs : List Hp} {σ : Owns} {L : Env} {N : Cont}
variable {P : Program} {fn : Func} {R : Ending → World → Prop}
end
end Pk
namespace Pk
open Go Go.Proofs
section
variable {P : Program} {r : Option Nat} {n : Cont} {p : List PanicEntry → Cont} {ops : Array Oper} {rest : List Oper} {d : Nat} {ty : TypeId} {pos : String} {af : Array Edge} {x : Fr} {Hs : List Hp} {σ : Owns} {L : Env} {N : Cont}
variable {κ α : Type} {ke : κ → Value} {enc : α → Value}
variable [DecidableEq κ] {kd : TypeDesc} [Keys ke kd]
end
end Pk
namespace Pk
open Go Go.Proofs Go.Sort
section
variable {P : Program} {r : Option Nat} {n : Cont} {p : List PanicEntry → Cont} {ops : Array Oper} {rest : List Oper} {d : Nat} {ty : TypeId} {pos : String} {af : Array Edge} {x : Fr} {Hs : List Hp} {σ : Owns} {L : Env}
end
end Pk
namespace Pk
open Go Go.Proofs
abbrev apV (a b : List Value) : List Value := a ++ b
theorem CellsAt.arr {H : Hp} {q : Addr} {cs : List Value} (h : CellsAt H q cs) (j : Nat) {v : Value} (hv : cs[j]? = some v) : CellsAt H (q.add (j * 1)) [v] := by
 rw [Nat.mul_one]
 have h1 := h.drop j
 refine ⟨h1.1, fun i u hu => ?_⟩
 cases i with
 | zero =>
  simp only [List.getElem?_cons_zero, Option.some.injEq] at hu
  subst hu
  exact h1.2 0 v (by rw [List.getElem?_drop]; simpa using hv)
 | succ i => simp at hu
section
variable {P : Program} {r : Option Nat} {n : Cont} {p : List PanicEntry → Cont} {ops : Array Oper} {rest : List Oper} {d : Nat} {ty : TypeId} {pos : String} {af : Array Edge} {x : Fr} {Hs : List Hp} {σ : Owns} {L : Env}
theorem stoJ (tg : Nat) (pre xs : List Value) {xs' : List Value} {t t0 : TypeId} {y z : Operand} {v : Value} {b j : Nat} (hs : ∀ w, (Go.sizeOf t).run P w = .ok 1 w) (hy : ev L y = some (.pointer (some ((⟨b, pre.length, none⟩ : Addr).add (j * 1))))) (hz : ev L z = some v) (hσ : getO σ tg = some (cel b t0 (pre ++ xs))) (hv : cellsL v = [v]) (h1 : v.oneCell' = true) (hj : j < xs.length) (hl : xs.set j v = xs') (h : OG P r ops n p x Hs (setO σ tg (cel b t0 (pre ++ xs'))) L rest) : OG P r ops n p x Hs σ L (⟨none, .store t y z, ty, pos, af, none⟩ :: rest) := fun c w hS hA => by
 rw [Nat.mul_one, addr_add rfl] at hy
 have hfit : pre.length + j + 1 ≤ (pre ++ xs).length := by rw [List.length_append]; omega
 refine o_store tg hA hS hy hz hs hσ hv rfl (by simpa using h1) (Nat.ble_eq_true_of_le hfit) fun w' hS' c hA => h c w' ?_ hA
 have e : spl (pre ++ xs) (pre.length + j) [v] = pre ++ xs' := by
  rw [spl_eq _ _ _ (by simpa using hfit), ← hl, List.take_append, List.drop_append, List.set_eq_take_append_cons_drop, if_pos hj]
  simp [List.take_of_length_le, List.drop_eq_nil_of_le, Nat.add_assoc, Nat.add_sub_cancel_left]
 rw [← e]; exact hS'
end
end Pk
namespace Pk
open Go
section
variable {α σ ε τ : Type}
def goL (g : Nat → α → σ → σ ⊕ ε) (out : σ → ε) : List α → Nat → σ → ε
 | [], _, a => out a
 | x :: l, i, a => match g i x a with
  | .inl a' => goL g out l (i + 1) a'
  | .inr e => e
theorem goL_nil (g : Nat → α → σ → σ ⊕ ε) (out : σ → ε) (i : Nat) (a : σ) : goL g out [] i a = out a := rfl
theorem goL_cons (g : Nat → α → σ → σ ⊕ ε) (out : σ → ε) (x : α) (l : List α) (i : Nat) (a : σ) : goL g out (x :: l) i a = (match g i x a with | .inl a' => goL g out l (i + 1) a' | .inr e => e) := rfl
theorem loop_l (l : List α) (g : Nat → α → σ → σ ⊕ ε) (out : σ → ε) (I : Nat → σ → Prop) {step : Nat × σ → Option ((Nat × σ) ⊕ ε)}
  (hs : ∀ i x a, i < l.length → l[i]? = some x → I i a → step (i, a) = some (match g i x a with | .inl a' => .inl (i + 1, a') | .inr e => .inr e))
  (hI : ∀ i x a a', i < l.length → l[i]? = some x → I i a → g i x a = .inl a' → I (i + 1) a')
  (he : ∀ a, I l.length a → step (l.length, a) = some (.inr (out a))) {a0 : σ} (h0 : I 0 a0) : loopO step (0, a0) = some (goL g out l 0 a0) := by
 have key : ∀ k i a, l.length - i = k → i ≤ l.length → I i a → loopO step (i, a) = some (goL g out (l.drop i) i a) := by
  intro k
  induction k with
  | zero =>
   intro i a hk hi hIa
   obtain rfl : i = l.length := by omega
   rw [loopO_out (he a hIa), List.drop_length, goL_nil]
  | succ k ih =>
   intro i a hk hi hIa
   have hlt : i < l.length := by omega
   have hx : l[i]? = some l[i] := List.getElem?_eq_getElem hlt
   rw [List.drop_eq_getElem_cons hlt, goL_cons]
   have h1 := hs i _ a hlt hx hIa
   cases hg : g i l[i] a with
   | inl a' =>
    rw [hg] at h1
    rw [loopO_next h1, ih (i + 1) a' (by omega) (by omega) (hI i _ a a' hlt hx hIa hg)]
   | inr e =>
    rw [hg] at h1
    rw [loopO_out h1]
 have := key l.length 0 a0 (by omega) (by omega) h0
 simpa using this
def goN (g : Nat → α → Option ε) (out : ε) : List α → Nat → ε
 | [], _ => out
 | x :: l, i => match g i x with
  | none => goN g out l (i + 1)
  | some e => e
theorem loop_n (l : List α) (g : Nat → α → Option ε) (out : ε) {step : Nat → Option (Nat ⊕ ε)}
  (hs : ∀ i x, i < l.length → l[i]? = some x → step i = some (match g i x with | none => .inl (i + 1) | some e => .inr e))
  (he : step l.length = some (.inr out)) : loopO step 0 = some (goN g out l 0) := by
 have key : ∀ k i, l.length - i = k → i ≤ l.length → loopO step i = some (goN g out (l.drop i) i) := by
  intro k
  induction k with
  | zero =>
   intro i hk hi
   obtain rfl : i = l.length := by omega
   rw [loopO_out he, List.drop_length]; rfl
  | succ k ih =>
   intro i hk hi
   have hlt : i < l.length := by omega
   have hx : l[i]? = some l[i] := List.getElem?_eq_getElem hlt
   rw [List.drop_eq_getElem_cons hlt]
   have h1 := hs i _ hlt hx
   simp only [goN]
   cases hg : g i l[i] with
   | none => rw [hg] at h1; rw [loopO_next h1, ih (i + 1) (by omega) (by omega)]
   | some e => rw [hg] at h1; rw [loopO_out h1]
 have := key l.length 0 (by omega) (by omega)
 simpa using this
theorem goN_all (p : α → Bool) (e out : ε) : ∀ (l : List α) (i : Nat), goN (fun _ x => if p x then none else some e) out l i = if l.all p then out else e
 | [], _ => rfl
 | x :: l, i => by
  have ih := goN_all p e out l (i + 1)
  simp only [goN, List.all_cons] at ih ⊢
  by_cases h : p x = true
  ·simp only [h, if_true, ih, Bool.true_and]
  ·simp [h]
theorem goL_fold (f : σ → α → σ) (out : σ → ε) : ∀ (l : List α) (i : Nat) (a : σ), goL (fun _ x a => .inl (f a x)) out l i a = out (l.foldl f a)
 | [], _, _ => rfl
 | x :: l, i, a => by simp only [goL, List.foldl_cons]; exact goL_fold f out l (i + 1) (f a x)
theorem loop_all (l : List α) (p : α → Bool) (e out : ε) {step : Nat → Option (Nat ⊕ ε)}
  (hs : ∀ i x, i < l.length → l[i]? = some x → step i = some (if p x then .inl (i + 1) else .inr e)) (he : step l.length = some (.inr out)) : loopO step 0 = some (if l.all p then out else e) := by
 rw [loop_n l (fun _ x => if p x then none else some e) out (fun i x hi hx => by rw [hs i x hi hx]; cases p x <;> simp) he, goN_all]
theorem loop_fold (l : List α) (f : σ → α → σ) (out : σ → ε) (I : Nat → σ → Prop) {step : Nat × σ → Option ((Nat × σ) ⊕ ε)}
  (hs : ∀ i x a, i < l.length → l[i]? = some x → I i a → step (i, a) = some (.inl (i + 1, f a x)))
  (hI : ∀ i x a, i < l.length → l[i]? = some x → I i a → I (i + 1) (f a x))
  (he : ∀ a, I l.length a → step (l.length, a) = some (.inr (out a))) {a0 : σ} (h0 : I 0 a0) : loopO step (0, a0) = some (out (l.foldl f a0)) := by
 rw [loop_l l (fun _ x a => .inl (f a x)) out I (fun i x a hi hx h => hs i x a hi hx h) (fun i x a a' hi hx h e => by cases e; exact hI i x a hi hx h) he h0, goL_fold]
theorem foldl_snoc (f : α → τ) : ∀ (l : List α) (a : List τ), l.foldl (fun a x => a ++ [f x]) a = a ++ l.map f
 | [], a => by simp
 | x :: l, a => by simp [foldl_snoc f l]
theorem foldl_append (f : α → List τ) : ∀ (l : List α) (a : List τ), l.foldl (fun a x => a ++ f x) a = a ++ l.flatMap f
 | [], a => by simp
 | x :: l, a => by simp [foldl_append f l]
theorem loop_map (l : List α) (F : α → τ) (out : List τ → ε) {step : Nat × List τ → Option ((Nat × List τ) ⊕ ε)}
  (hs : ∀ i x a, i < l.length → l[i]? = some x → a.length = i → step (i, a) = some (.inl (i + 1, a ++ [F x])))
  (he : ∀ a, step (l.length, a) = some (.inr (out a))) : loopO step (0, []) = some (out (l.map F)) := by
 rw [loop_fold l (fun a x => a ++ [F x]) out (fun i a => a.length = i) hs (fun i x a _ _ h => by simp [h]) (fun a _ => he a) rfl, foldl_snoc]
 rfl
theorem chk_t {p : Prop} (h : p) (x : Option α) : chk p x = x := chk_pos h x
theorem lt_len {l : List α} {i : Nat} {x : α} (h : l[i]? = some x) : i < l.length := (List.getElem?_eq_some_iff.1 h).1
end
end Pk
namespace Pk
open Go
section
variable {α β : Type}
noncomputable def stIdx (l : List α) (f : α → Option Bool) (s : Nat) : Option (Nat ⊕ (Unit ⊕ Int)) :=
 if (s : Int) < (l.length : Int) then (l[s]?).bind fun x => (f x).bind fun r => if r then some (.inr (.inr (s : Int))) else some (.inl (s + 1)) else some (.inr (.inl ()))
noncomputable def gIdx (l : List α) (f : α → Option Bool) : Option Int := (loopO (stIdx l f) 0).bind fun e => match e with
 | .inr z => some z
 | .inl _ => some (-1)
noncomputable def gHas (l : List α) (f : α → Option Bool) : Option Bool := (gIdx l f).bind fun r => some (decide (0 ≤ r))
noncomputable def gAll (l : List α) (f : α → Option Bool) : Option Bool := (gHas l (fun x => (f x).bind fun r => some (!r))).bind fun r => some (!r)
theorem goN_idx (p : α → Bool) : ∀ (l : List α) (i : Nat), goN (ε := Unit ⊕ Int) (fun j x => if p x then some (.inr (j : Int)) else none) (.inl ()) l i = if l.any p then .inr ((i : Int) + (l.findIdx p : Nat)) else .inl ()
 | [], _ => rfl
 | x :: l, i => by
  have ih := goN_idx p l (i + 1)
  simp only [goN]
  by_cases h : p x = true
  ·simp [h, List.findIdx_cons]
  ·simp only [h, if_false, ih, List.any_cons, List.findIdx_cons, Bool.false_eq_true]
   simp only [Bool.not_eq_true] at h
   simp only [Bool.false_or, cond_false]
   by_cases h2 : l.any p = true
   ·simp only [h2, if_true]; congr 1; omega
   ·simp [h2]
theorem gIdx_some {l : List α} {f : α → Option Bool} (p : α → Bool) (h : ∀ x ∈ l, f x = some (p x)) : gIdx l f = some (if l.any p then ((l.findIdx p : Nat) : Int) else -1) := by
 unfold gIdx
 have hl : loopO (stIdx l f) 0 = some (goN (ε := Unit ⊕ Int) (fun j x => if p x then some (.inr (j : Int)) else none) (.inl ()) l 0) := by
  refine loop_n (ε := Unit ⊕ Int) l (fun j x => if p x then some (.inr (j : Int)) else none) (.inl ()) (fun i x hi hx => ?_) ?_
  ·unfold stIdx
   rw [if_pos (by omega), hx, Option.bind_some, h x (List.mem_of_getElem? hx)]
   cases p x <;> rfl
  ·unfold stIdx; simp
 rw [hl, goN_idx]
 by_cases h : l.any p = true
 ·simp only [h, if_true, Option.bind_some]; congr 1; omega
 ·simp [h]
theorem gHas_some {l : List α} {f : α → Option Bool} (p : α → Bool) (h : ∀ x ∈ l, f x = some (p x)) : gHas l f = some (l.any p) := by
 unfold gHas
 rw [gIdx_some p h]
 by_cases h2 : l.any p = true
 ·simp only [h2, if_true, Option.bind_some]; simp
 ·simp only [h2]; simp
theorem gAll_some {l : List α} {f : α → Option Bool} (p : α → Bool) (h : ∀ x ∈ l, f x = some (p x)) : gAll l f = some (l.all p) := by
 unfold gAll
 rw [gHas_some (fun x => !p x) (fun x hx => by rw [h x hx]; rfl), Option.bind_some]
 congr 1
 induction l with
 | nil => rfl
 | cons x l ih => simp only [List.any_cons, List.all_cons, Bool.not_or, Bool.not_not]; rw [ih (fun y hy => h y (List.mem_cons_of_mem _ hy))]
noncomputable def stIx [DecidableEq α] (l : List α) (v : α) (s : Nat) : Option (Nat ⊕ (Unit ⊕ Int)) :=
 if (s : Int) < (l.length : Int) then (l[s]?).bind fun x => if v = x then some (.inr (.inr (s : Int))) else some (.inl (s + 1)) else some (.inr (.inl ()))
noncomputable def gIx [DecidableEq α] (l : List α) (v : α) : Option Int := (loopO (stIx l v) 0).bind fun e => match e with
 | .inr z => some z
 | .inl _ => some (-1)
noncomputable def gCon [DecidableEq α] (l : List α) (v : α) : Option Bool := (gIx l v).bind fun r => some (decide (0 ≤ r))
theorem gIx_some [DecidableEq α] (l : List α) (v : α) : gIx l v = some (if v ∈ l then ((l.findIdx (fun x => decide (v = x)) : Nat) : Int) else -1) := by
 unfold gIx
 have hl : loopO (stIx l v) 0 = some (goN (ε := Unit ⊕ Int) (fun j x => if decide (v = x) then some (.inr (j : Int)) else none) (.inl ()) l 0) := by
  refine loop_n (ε := Unit ⊕ Int) l (fun j x => if decide (v = x) then some (.inr (j : Int)) else none) (.inl ()) (fun i x hi hx => ?_) ?_
  ·unfold stIx
   rw [if_pos (by omega), hx, Option.bind_some]
   by_cases h : v = x <;> simp [h]
  ·unfold stIx; simp
 rw [hl, goN_idx]
 have : l.any (fun x => decide (v = x)) = decide (v ∈ l) := by
  rw [Bool.eq_iff_iff]; simp
 rw [this]
 by_cases h : v ∈ l <;> simp [h]
theorem gCon_some [DecidableEq α] (l : List α) (v : α) : gCon l v = some (decide (v ∈ l)) := by
 unfold gCon
 rw [gIx_some]
 by_cases h : v ∈ l <;> simp [h]
end
end Pk
namespace Pk
open Go Go.Lib
def isd (c : UInt8) : Bool := decide (48 ≤ c.toNat ∧ c.toNat ≤ 57)
def valN (l : Bytes) (a : Nat) : Nat := l.foldl (fun a c => 10 * a + (c.toNat - 48)) a
theorem valN_append (l m : Bytes) (a : Nat) : valN (l ++ m) a = valN m (valN l a) := by simp [valN]
theorem decFrom_eq : ∀ (l : Bytes) (a : Nat), decFrom a l = if l.all isd then some (valN l a) else none
 | [], a => rfl
 | c :: l, a => by
  have ih := fun b => decFrom_eq l b
  simp only [decFrom, List.all_cons, valN, List.foldl_cons] at ih ⊢
  unfold digitVal
  by_cases h : isd c = true
  ·have h' := h
   simp only [isd, decide_eq_true_eq] at h'
   simp only [h', and_self, if_true, h, Bool.true_and]
   rw [show a * 10 + (c.toNat - 48) = 10 * a + (c.toNat - 48) by omega]
   exact ih _
  ·have h' := h
   simp only [isd, decide_eq_true_eq] at h'
   simp [h', h]
theorem u8_of {n : Nat} (h : n < 256) : (UInt8.ofNat n).toNat = n := by simp; omega
theorem isd_of {n : Nat} (h : n < 10) : isd (UInt8.ofNat (48 + n)) = true := by
 unfold isd; rw [u8_of (by omega)]; simp; omega
theorem dec_all (u : Nat) : (decDigits u).all isd = true := by
 induction u using Nat.strongRecOn with
 | _ u ih =>
  rw [decDigits]
  split
  ·simp only [List.all_cons, List.all_nil, Bool.and_true]; exact isd_of ‹_›
  ·rw [List.all_append, ih (u / 10) (by omega)]; simp only [List.all_cons, List.all_nil, Bool.and_true, Bool.true_and]; exact isd_of (show u % 10 < 10 by omega)
theorem dec_val (u : Nat) : valN (decDigits u) 0 = u := by
 induction u using Nat.strongRecOn with
 | _ u ih =>
  rw [decDigits]
  split
  ·simp only [valN, List.foldl_cons, List.foldl_nil]; rw [u8_of (by omega)]; omega
  ·rw [valN_append, ih (u / 10) (by omega)]
   simp only [valN, List.foldl_cons, List.foldl_nil]; rw [u8_of (by omega)]; omega
theorem dec_ne (u : Nat) : decDigits u ≠ [] := by
 rw [decDigits]; split <;> simp
theorem dec_len {u k : Nat} (h : u < 10 ^ k) (hk : 1 ≤ k) : (decDigits u).length ≤ k := by
 induction k generalizing u with
 | zero => omega
 | succ k ih =>
  rw [decDigits]
  split
  ·simp
  ·rw [List.length_append]
   have h1 : u / 10 < 10 ^ k := by rw [Nat.pow_succ] at h; omega
   have hk1 : 1 ≤ k := by
    rcases k with _ | k
    ·simp at h1; omega
    ·omega
   have := ih h1 hk1
   simp; omega
theorem atoi_dec {u : Nat} (h : u < 10 ^ 18) : atoiAll (decDigits u) = .ok (u : Int) := by
 rw [atoiAll_short _ (dec_len h (by decide))]
 have ha := dec_all u
 have hv := dec_val u
 cases hd : decDigits u with
 | nil => exact absurd hd (dec_ne u)
 | cons c r =>
  rw [hd] at ha hv
  have hc : isd c = true := by simp only [List.all_cons, Bool.and_eq_true] at ha; exact ha.1
  simp only [isd, decide_eq_true_eq] at hc
  have h45 : (c == 45) = false := by
   rw [beq_eq_false_iff_ne]; rintro rfl; simp at hc
  have h43 : (c == 43) = false := by
   rw [beq_eq_false_iff_ne]; rintro rfl; simp at hc
  simp only [atoi, h45, h43, decNat, List.isEmpty_cons, decFrom_eq, ha, hv]
  rfl
end Pk
namespace Pk
open Go
theorem sortO_eq {α : Type} {f : α → α → Option Int} (lt : α → α → Bool) {l l' : List α} (hlen : l.length ≤ 1073741824) (hf : ∀ x ∈ l, ∀ y ∈ l, ∃ c, f x y = some c ∧ (c < 0 ↔ lt x y = true)) (irr : ∀ x ∈ l, lt x x = false)
    (tr : ∀ x ∈ l, ∀ y ∈ l, ∀ z ∈ l, lt x y = true → lt y z = true → lt x z = true) (tot : ∀ x ∈ l, ∀ y ∈ l, x ≠ y → lt x y = true ∨ lt y x = true) (hp : l'.Perm l) (hs : l'.Pairwise (fun x y => lt x y = true)) : sortO f l = some l' := by
  have hlt : ∀ x ∈ l, ∀ y ∈ l, ltM f x y = lt x y := fun x hx y hy => by
    obtain ⟨c, h1, h2⟩ := hf x hx y hy
    unfold ltM
    rw [h1]
    cases h : lt x y with
    | true => simpa using h2.2 h
    | false => simp; by_cases hc : c < 0
               · rw [h2.1 hc] at h; cases h
               · omega
  have hok : SortOK f l := ⟨hlen, fun x hx y hy => (hf x hx y hy).imp fun _ h => h.1, fun x hx => by rw [hlt x hx x hx]; exact irr x hx,
    fun x hx y hy z hz h1 h2 => by rw [hlt x hx y hy] at h1; rw [hlt y hy z hz] at h2; rw [hlt x hx z hz]; exact tr x hx y hy z hz h1 h2,
    fun x hx y hy h1 h2 => by
      rw [hlt x hx y hy] at h1; rw [hlt y hy x hx] at h2
      by_cases e : x = y
      · exact e
      · rcases tot x hx y hy e with h | h
        · rw [h] at h1; cases h1
        · rw [h] at h2; cases h2⟩
  unfold sortO
  rw [if_pos hok]
  congr 1
  have hmap : (l.attach.mergeSort fun a b => !ltM f b.1 a.1).map (·.1) = l.mergeSort fun x y => !ltM f y x := by
    rw [List.map_mergeSort (s := fun x y => !ltM f y x) (fun a _ b _ => rfl)]
    congr 1
    exact List.attach_map_subtype_val l
  have hpw : (l.attach.mergeSort fun a b => !ltM f b.1 a.1).Pairwise (fun a b => (!ltM f b.1 a.1) = true) := by
    refine List.pairwise_mergeSort (fun a b c h1 h2 => ?_) (fun a b => ?_) _
    · simp only [Bool.not_eq_true'] at *
      rw [hlt _ b.2 _ a.2] at h1
      rw [hlt _ c.2 _ b.2] at h2
      rw [hlt _ c.2 _ a.2]
      cases h3 : lt c.1 a.1 with
      | false => rfl
      | true =>
        exfalso
        by_cases e : b.1 = a.1
        · rw [e] at h2; rw [h2] at h3; cases h3
        · rcases tot _ b.2 _ a.2 e with h | h
          · rw [h] at h1; cases h1
          · rw [tr _ c.2 _ a.2 _ b.2 h3 h] at h2; cases h2
    · simp only [Bool.or_eq_true, Bool.not_eq_true']
      rw [hlt _ b.2 _ a.2, hlt _ a.2 _ b.2]
      cases h3 : lt b.1 a.1 with
      | false => exact .inl rfl
      | true =>
        right
        cases h4 : lt a.1 b.1 with
        | false => rfl
        | true => have := tr _ a.2 _ b.2 _ a.2 h4 h3; rw [irr _ a.2] at this; cases this
  have hpw' : (l.mergeSort fun x y => !ltM f y x).Pairwise (fun x y => (!ltM f y x) = true) := by
    rw [← hmap, List.pairwise_map]; exact hpw
  refine List.Perm.eq_of_pairwise (le := fun x y => (!ltM f y x) = true) ?_ hpw' ?_ ((List.mergeSort_perm _ _).trans hp.symm)
  · intro x y hx hy h1 h2
    have hx' : x ∈ l := (List.mergeSort_perm _ _).subset hx
    have hy' : y ∈ l := hp.subset hy
    simp only [Bool.not_eq_true'] at h1 h2
    rw [hlt _ hy' _ hx'] at h1
    rw [hlt _ hx' _ hy'] at h2
    by_cases e : x = y
    · exact e
    · rcases tot _ hx' _ hy' e with h | h
      · rw [h] at h2; cases h2
      · rw [h] at h1; cases h1
  · refine hs.imp_of_mem fun {x y} hx hy h => ?_
    simp only [Bool.not_eq_true']
    rw [hlt _ (hp.subset hy) _ (hp.subset hx)]
    cases h3 : lt y x with
    | false => rfl
    | true => have := tr _ (hp.subset hx) _ (hp.subset hy) _ (hp.subset hx) h h3; rw [irr _ (hp.subset hx)] at this; cases this
end Pk
namespace Pk
open Go
def LeO {α : Type} (a b : Option α) : Prop := ∀ r, a = some r → b = some r
section
variable {α β σ ε : Type}
theorem LeO.refl (a : Option α) : LeO a a := fun _ h => h
theorem LeO.bind {a a' : Option α} {f f' : α → Option β} (h : LeO a a') (hf : ∀ x, LeO (f x) (f' x)) : LeO (a.bind f) (a'.bind f') := fun r hr => by
 obtain ⟨x, h1, h2⟩ := Option.bind_eq_some_iff.1 hr
 rw [h x h1, Option.bind_some]; exact hf x r h2
theorem LeO.map {a a' : Option α} {f : α → β} (h : LeO a a') : LeO (a.map f) (a'.map f) := fun r hr => by
 obtain ⟨x, h1, h2⟩ := Option.map_eq_some_iff.1 hr
 rw [h x h1, Option.map_some, h2]
theorem LeO.ite {c : Prop} [Decidable c] {a a' b b' : Option α} (h1 : LeO a a') (h2 : LeO b b') : LeO (if c then a else b) (if c then a' else b') := by
 split
 ·exact h1
 ·exact h2
def chkE (p : Prop) [Decidable p] (x : Option α) : Option α := if p then x else none
theorem LeO.chk {p : Prop} [Decidable p] {a a' : Option α} (h : LeO a a') : LeO (chkE p a) (chk p a') := fun r hr => by
 unfold chkE at hr
 split at hr
 ·rw [chk_t ‹_›]; exact h r hr
 ·cases hr
theorem LeO.chk2 {p : Prop} {a a' : Option α} (h : LeO a a') : LeO (Pk.chk p a) (Pk.chk p a') := fun r hr => by
 obtain ⟨hp, hr⟩ := chk_some hr
 rw [chk_t hp]; exact h r hr
def loopF (step : σ → Option (σ ⊕ ε)) (n : Nat) : σ → Option ε := Nat.rec (fun _ => none) (fun _ ih s => (step s).bind fun z => match z with
 | .inl s' => ih s'
 | .inr e => some e) n
theorem LeO.loop {f f' : σ → Option (σ ⊕ ε)} (h : ∀ s, LeO (f s) (f' s)) (n : Nat) : ∀ s, LeO (loopF f n s) (loopO f' s) := by
 induction n with
 | zero => intro s r hr; cases hr
 | succ n ih =>
  intro s r hr
  obtain ⟨z, h1, h2⟩ := Option.bind_eq_some_iff.1 (show (f s).bind _ = some r from hr)
  cases z with
  | inl s' => rw [loopO_next (h s _ h1)]; exact ih s' r h2
  | inr e => cases h2; exact loopO_out (h s _ h1)
def loopE (step : σ → Option (σ ⊕ ε)) (s : σ) : Option ε := loopF step 1000000 s
theorem LeO.loopE {f f' : σ → Option (σ ⊕ ε)} (h : ∀ s, LeO (f s) (f' s)) (s : σ) : LeO (Pk.loopE f s) (loopO f' s) := LeO.loop h _ s
theorem LeO.bindS {a a' : Option (σ ⊕ ε)} {f f' : σ ⊕ ε → Option β} (h : LeO a a') (hl : ∀ x, LeO (f (.inl x)) (f' (.inl x))) (hr : ∀ x, LeO (f (.inr x)) (f' (.inr x))) : LeO (a.bind f) (a'.bind f') :=
 LeO.bind h fun x => by
  cases x
  ·exact hl _
  ·exact hr _
def insF (f : α → α → Option Int) (x : α) : List α → List α
 | [] => [x]
 | y :: l => if ltM f x y then x :: y :: l else y :: insF f x l
def isoF (f : α → α → Option Int) : List α → List α
 | [] => []
 | x :: l => insF f x (isoF f l)
theorem insF_perm (f : α → α → Option Int) (x : α) : ∀ l, (insF f x l).Perm (x :: l)
 | [] => .refl _
 | y :: l => by
  unfold insF
  split
  ·exact .refl _
  ·exact ((insF_perm f x l).cons y).trans (.swap x y l)
theorem isoF_perm (f : α → α → Option Int) : ∀ l, (isoF f l).Perm l
 | [] => .refl _
 | x :: l => (insF_perm f x _).trans ((isoF_perm f l).cons x)
def pwB (f : α → α → Option Int) : List α → Bool
 | [] => true
 | x :: l => l.all (fun y => ltM f x y) && pwB f l
theorem pwB_at {f : α → α → Option Int} : ∀ {l : List α}, pwB f l = true → l.Pairwise fun x y => ltM f x y = true
 | [], _ => .nil
 | x :: l, h => by
  unfold pwB at h
  rw [Bool.and_eq_true, List.all_eq_true] at h
  exact .cons h.1 (pwB_at h.2)
def okF (f : α → α → Option Int) (l : List α) : Bool := Nat.ble l.length 1073741824 && l.all fun x => !ltM f x x && l.all fun y => (f x y).isSome && l.all fun z => !(ltM f x y && ltM f y z) || ltM f x z
def sortF (f : α → α → Option Int) (l : List α) : Option (List α) := if okF f l && pwB f (isoF f l) then some (isoF f l) else none
theorem pw_or {R : α → α → Prop} : ∀ {l : List α}, l.Pairwise R → ∀ x ∈ l, ∀ y ∈ l, x ≠ y → R x y ∨ R y x
 | z :: l, h, x, hx, y, hy, hne => by
  obtain ⟨h1, h2⟩ := List.pairwise_cons.1 h
  rcases List.mem_cons.1 hx with e | hx'
  ·rcases List.mem_cons.1 hy with e' | hy'
   ·exact absurd (e.trans e'.symm) hne
   ·rw [e]; exact .inl (h1 _ hy')
  ·rcases List.mem_cons.1 hy with e' | hy'
   ·rw [e']; exact .inr (h1 _ hx')
   ·exact pw_or h2 x hx' y hy' hne
theorem LeO.sort {f f' : α → α → Option Int} (h : ∀ x y, LeO (f x y) (f' x y)) (l : List α) : LeO (sortF f l) (sortO f' l) := fun r hr => by
 unfold sortF at hr
 split at hr
 ·rename_i hc
  cases hr
  rw [Bool.and_eq_true] at hc
  obtain ⟨ho, hp⟩ := hc
  unfold okF at ho
  simp only [Bool.and_eq_true, List.all_eq_true, Bool.not_eq_true', Bool.or_eq_true, Bool.and_eq_false_imp] at ho
  have hperm := isoF_perm f l
  refine sortO_eq (ltM f) (Nat.le_of_ble_eq_true ho.1) (fun x hx y hy => ?_) (fun x hx => (ho.2 x hx).1) (fun x hx y hy z hz h1 h2 => ?_) (fun x hx y hy hne => pw_or (pwB_at hp) x (hperm.mem_iff.2 hx) y (hperm.mem_iff.2 hy) hne) hperm (pwB_at hp)
  ·obtain ⟨c, h1⟩ := Option.isSome_iff_exists.1 ((ho.2 x hx).2 y hy).1
   refine ⟨c, h _ _ _ h1, ?_⟩
   unfold ltM; rw [h1]; simp
  ·rcases ((ho.2 x hx).2 y hy).2 z hz with h3 | h3
   ·rw [h3 h1] at h2; cases h2
   ·exact h3
 ·cases hr
end
end Pk
