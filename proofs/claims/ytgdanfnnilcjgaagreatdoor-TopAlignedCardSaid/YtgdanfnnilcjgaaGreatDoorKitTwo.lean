/-
  The kit,second text: regions whose order is open,maps,models,functions walked in place.
-/
import Derived.Test.YtgdanfnnilcjgaaGreatDoorKitOne
import Derived.MapKept
import Derived.LoopNIn
set_option linter.all false
namespace Pk
open Go
section
variable (P:Program) (r:Option Nat) (ops:Array Oper) (ms:List Nat) (D:List Deferred) (k:Nat) (M:Prop) (w0:World) (H0:Hp) (Hs:List Hp) (L0:bX) (pp:List PanicEntry→aP) (u m:Nat) (T:List (Nat×Nat×Value))
def OpM (σ:aN) (o:Oper) (d:Nat) (E:bX) (F:bY) {α:Type} (f:α→Value) (G:α→Hp→Prop) (σ1:α→aN):Prop :=
 ∀ a w K,St M w0 H0 (K::Hs) σ w→aV D k a (GG (o.looksAt ops) E++L0)→KG (o.looksAt ops) F K →
  O P r ops (fun a' w'=>∃ x K',K.le K'∧St M w0 H0 (K'::Hs) (σ1 x) w'∧a'.tmps[d]?=some (f x)∧a'.defers=D∧G x K') pp [o] a w
def eB (T:List (Nat×Nat×Value)) (i:Nat):Bool:=!(T.map (·.1)).contains i
end
section
variable {P:Program} {r:Option Nat} {ops:Array Oper} {ms:List Nat} {D:List Deferred} {k:Nat} {M:Prop} {w0:World} {H0:Hp} {Hs:List Hp} {L0:bX} {pp:List PanicEntry→aP} {u m:Nat} {T:List (Nat×Nat×Value)} {fn:aN→bX→bY→Prop}
end
def mV (b:Bool) (all:List Oper) (m k:Nat) (keys tk:List Nat):Bool :=
 let ops:=all.toArray
 let ms:=eY all []
 ((all.take m).all fun o=>match o.dst with
  | some d=>Nat.blt d k&&!keys.contains d&&(hY o.op||fM o.op)
  | none=>b&&hY o.op) &&
 rD (pX (all.take m)) &&
 ((all.take m).all fun o=>(List.range m).all fun t=>match (ops[t]?).bind (·.dst) with
  | some d=>!(o.looksAt ops).contains d||o.after.any fun e=>Region.binds .any e&&Nat.beq e.on t
  | none=>true) &&
 (all.zipIdx.all fun (o,i)=>o.after.all fun e=>!Region.binds .any e||Nat.blt e.on i) &&
 ((List.range all.length).all fun i=>Nat.blt i m||(List.range i).all fun t=>(ms.getD i 0).testBit t||tk.contains t) &&
 tk.all (fun t=>Nat.blt t m)
section
variable {P:Program} {r:Option Nat} {n rt:aP} {e:List (Nat×aP)} {p:List PanicEntry→aP} {ops:Array Oper}
variable {D:List Deferred} {k:Nat} {M:Prop} {w0:World} {H0:Hp} {Hs:List Hp} {σ:aN} {L0:bX} {pp:List PanicEntry→aP}
structure BX (b:Bool) (all:List Oper) (m k:Nat) (L0:bX) (tk:List Nat):Prop where
 pres:∀ t o,t < m→all[t]?=some o→(∃ d,o.dst=some d∧d < k∧(∀ v,(d,v)∉L0)∧(hY o.op=true∨fM o.op=true))∨(b=true∧o.dst=none∧hY o.op=true)
 uni:∀ t i o o' d,t < m→i < m→all[t]?=some o→all[i]?=some o'→o.dst=some d→o'.dst=some d→t=i
 dep:∀ t i o o' d,t < m→i < m→all[t]?=some o→all[i]?=some o'→o.dst=some d→d∈o'.looksAt all.toArray→∃ x∈o'.after,Region.binds .any x=true∧x.on=t
 edge:∀ i o,all[i]?=some o→∀ x∈o.after,Region.binds .any x=true→x.on < i
 suf:∀ i,m≤i→i < all.length→∀ t,t < i→((eY all []).getD i 0).testBit t=true∨tk.contains t=true
 tkm:∀ t,tk.contains t=true→t < m
theorem KR {b:Bool} {all:List Oper} {m k:Nat} {L0:bX} {tk:List Nat} (h:mV b all m k (L0.map (·.1)) tk=true):BX b all m k L0 tk:=by
 unfold mV at h;simp only [Bool.and_eq_true,List.all_eq_true] at h;obtain ⟨⟨⟨⟨⟨h1,h2⟩,h3⟩,h4⟩,h5⟩,h6⟩:=h;have hmem:∀ t o,t < m→all[t]?=some o→o∈all.take m:=fun t o ht ho=>List.mem_of_getElem? (i:=t) (by rw [List.getElem?_take,if_pos ht];exact ho);refine ⟨?_,?_,?_,?_,?_,fun t ht=>by have:=h6 t (by simpa using ht);simpa [Nat.blt_eq] using this⟩
 ·intro t o ht ho;have:=h1 o (hmem t o ht ho)
  cases hd:o.dst with
  | none=>simp only [hd,Bool.and_eq_true] at this;exact .inr ⟨this.1,rfl,this.2⟩
  | some d =>
   simp only [hd,Bool.and_eq_true,Bool.or_eq_true,Bool.not_eq_true'] at this;obtain ⟨⟨ha,hb⟩,hc⟩:=this;refine .inl ⟨d,rfl,by simpa [Nat.blt_eq] using ha,?_,hc⟩;intro v hv;have h1:d∈L0.map (·.1):=List.mem_map.2 ⟨(d,v),hv,rfl⟩;have hb':(L0.map (·.1)).contains d=true:=by rw [List.contains_eq_mem];exact decide_eq_true h1
   rw [hb] at hb';cases hb'
 ·intro t i o o' d ht hi ho ho' hd hd';exact tC h2 (by rw [List.getElem?_take,if_pos ht];exact ho) (by rw [List.getElem?_take,if_pos hi];exact ho') hd hd'
 ·intro t i o o' d ht hi ho ho' hd hl;have:=h3 o' (hmem i o' hi ho') t (List.mem_range.2 ht);have hto:(all.toArray[t]?).bind (·.dst)=some d:=by simp [ho,hd]
  simp only [hto,Bool.or_eq_true,Bool.not_eq_true'] at this;rcases this with h | h
  ·exact absurd (by simpa using hl) (by simpa using h)
  obtain ⟨j,hj,hb⟩:=Array.any_eq_true.1 h;rw [Bool.and_eq_true] at hb;exact ⟨o'.after[j],Array.getElem_mem hj,hb.1,Nat.eq_of_beq_eq_true hb.2⟩
 ·intro i o ho x hx hb;have:=h4 (o,i) (List.mem_zipIdx_iff_getElem?.2 ho);have:=Array.all_eq_true_iff_forall_mem.1 this x hx;simp only [hb,Bool.not_true,Bool.false_or] at this;simpa [Nat.blt_eq] using this
 intro i h1 h2 t ht;have:=h5 i (List.mem_range.2 h2);simp only [Bool.or_eq_true,List.all_eq_true] at this;rcases this with h | h
 ·have:i < m:=by simpa [Nat.blt_eq] using h
  omega
 exact h t (List.mem_range.2 ht)
theorem FinT.mk {K:Hp} {L:bX} {a:Act} {w:World} {d:Nat} {α:Type} {f:α→Value} {G:α→Hp→Prop} {σ1:α→aN} (x:α) (hS:St M w0 H0 (K::Hs) (σ1 x) w) (hA:aV D k a ((d,f x)::L)) (hG:G x K):O P r ops (fun a' w'=>∃ x K',K.le K'∧St M w0 H0 (K'::Hs) (σ1 x) w'∧a'.tmps[d]?=some (f x)∧a'.defers=D∧G x K') p [] a w :=
 ⟨x,K,Hp.le.refl _,hS,hA.get _ _ (by simp [lk]),hA.defers,hG⟩
end
end Pk
namespace Pk
open Go
section
variable {P:Program} {r:Option Nat} {n rt:aP} {e:List (Nat×aP)} {p:List PanicEntry→aP} {a:Act} {w:World}
variable {D:List Deferred} {k:Nat} {L:bX} {ops:Array Oper} {rest:List Oper} {d:Nat} {ty:TypeId} {pos:String} {af:Array Edge}
variable {M:Prop} {w0:World} {H0:Hp} {Hs:List Hp} {σ:aN}
end
end Pk
namespace Pk
open Go
def cQ {α:Type} (p:Prop) [Decidable p] (x:Option α):Option α:=if p then x else none
theorem aH {α:Type} {p:Prop} [Decidable p] {x:Option α} {r:α} (h:cQ p x=some r):p∧x=some r:=by
 unfold cQ at h;split at h
 ·exact ⟨‹p›,h⟩
 cases h
theorem GR {α:Type} {p:Prop} [Decidable p] (h:p) (x:Option α):cQ p x=x:=by unfold cQ;rw [if_pos h]
theorem aB {α β:Type} {x:Option α} {f:α→Option β} {r:β} (h:x.bind f=some r):∃ t,x=some t∧f t=some r:=by
 cases x with
 | none=>cases h
 | some t=>exact ⟨t,rfl,h⟩
theorem aO {α:Type} {c:Prop} [Decidable c] {x y z:α} (h:c) (hr:(if c then x else y)=z):x=z:=by rw [if_pos h] at hr;exact hr
theorem bB {α:Type} {c:Prop} [Decidable c] {x y z:α} (h:¬c) (hr:(if c then x else y)=z):y=z:=by rw [if_neg h] at hr;exact hr
theorem bZ {α:Type} {b:Bool} {x y z:α} (h:b=false) (hr:(if b=true then x else y)=z):y=z:=by subst h;exact hr
section
variable {σ ε:Type}
inductive wL (step:σ→Option (σ⊕ε)):Nat→σ→ε→Prop
 | out {s:σ} {e:ε} (h:step s=some (.inr e)):wL step 0 s e
 | next {n:Nat} {s s':σ} {e:ε} (h:step s=some (.inl s')) (t:wL step n s' e):wL step (n+1) s e
def cK (step:σ→Option (σ⊕ε)) (j:Nat) (e:ε):σ⊕ε→Prop
 | .inl s'=>∃ m,m < j∧wL step m s' e
 | .inr e'=>e'=e
theorem cK.out {step:σ→Option (σ⊕ε)} {j:Nat} {e e':ε} (h:cK step j e (.inr e')):e'=e:=h
theorem wL.step {step:σ→Option (σ⊕ε)} {n:Nat} {s:σ} {e:ε} (h:wL step n s e):∃ z,step s=some z∧cK step n e z:=by
 cases h with
 | out h=>exact ⟨_,h,rfl⟩
 | next h t=>exact ⟨_,h,_,Nat.lt_succ_self _,t⟩
theorem wL.det {step:σ→Option (σ⊕ε)} {n:Nat} {s:σ} {e:ε} (h:wL step n s e):∀ {m:Nat} {e':ε},wL step m s e'→e'=e:=by
 induction h with
 | out h =>
  intro m e' h'
  cases h' with
  | out h2=>rw [h] at h2;cases h2;rfl
  | next h2 t=>rw [h] at h2;cases h2
 | next h t ih =>
  intro m e' h'
  cases h' with
  | out h2=>rw [h] at h2;cases h2
  | next h2 t2=>rw [h] at h2;cases h2;exact ih t2
def BY (step:σ→Option (σ⊕ε)) (n:Nat):σ→Option ε:=Nat.rec (fun _=>none) (fun _ ih s=>(step s).bind fun z=>match z with
 | .inl s'=>ih s'
 | .inr e=>some e) n
theorem wY {step:σ→Option (σ⊕ε)} {e:ε} (n:Nat):∀ {s:σ},BY step n s=some e→∃ m,wL step m s e:=by
 induction n with
 | zero=>intro s h;cases h
 | succ n ih =>
  intro s h;obtain ⟨z,h1,h2⟩:=aB (show (step s).bind _=some e from h)
  cases z with
  | inl s'=>obtain ⟨m,hm⟩:=ih h2;exact ⟨_,.next h1 hm⟩
  | inr e'=>cases h2;exact ⟨0,.out h1⟩
open Classical in
noncomputable def aQ (step:σ→Option (σ⊕ε)) (s:σ):Option ε:=(BY step 1000000 s).or (if h:∃ e,∃ n,wL step n s e then some (Classical.choose h) else none)
theorem kX {step:σ→Option (σ⊕ε)} {s:σ} {e:ε}:aQ step s=some e↔∃ n,wL step n s e:=by
 unfold aQ
 cases hF:BY step 1000000 s with
 | some e' =>
  obtain ⟨m,hm⟩:=wY _ hF;constructor
  ·intro h;cases h;exact ⟨m,hm⟩
  rintro ⟨n,h⟩;rw [h.det hm];rfl
 | none =>
  rw [Option.none_or];constructor
  ·intro h
   split at h
   ·rename_i h'
    simp only [Option.some.injEq] at h;subst h;exact Classical.choose_spec h'
   cases h
  rintro ⟨n,h⟩;have h':∃ e,∃ n,wL step n s e:=⟨e,n,h⟩;rw [dif_pos h'];obtain ⟨m,hm⟩:=Classical.choose_spec h';rw [h.det hm]
theorem GS {step:σ→Option (σ⊕ε)} {s:σ} {e:ε} (h:aQ step s=some e):∃ n,wL step n s e:=kX.1 h
theorem cN {step:σ→Option (σ⊕ε)} {s:σ} {e:ε} (h:step s=some (.inr e)):aQ step s=some e:=kX.2 ⟨0,.out h⟩
theorem eH {step:σ→Option (σ⊕ε)} {s s':σ} (h:step s=some (.inl s')):aQ step s=aQ step s':=by
 have h1:∀ e,aQ step s=some e↔aQ step s'=some e:=by
  intro e;rw [kX,kX];constructor
  ·rintro ⟨n,hn⟩
   cases hn with
   | out h2=>rw [h] at h2;cases h2
   | next h2 t=>rw [h] at h2;cases h2;exact ⟨_,t⟩
  rintro ⟨n,hn⟩;exact ⟨_,.next h hn⟩
 cases hs:aQ step s with
 | some e=>exact ((h1 e).1 hs).symm
 | none =>
  cases hs':aQ step s' with
  | none=>rfl
  | some e=>rw [(h1 e).2 hs'] at hs;cases hs
end
structure Fr where
 D:List Deferred
 k:Nat
 M:Prop
 w0:World
 H0:Hp
def TG (x:Fr) (Hs:List Hp) (σ:aN) (L:bX) (N:aP):Prop:=∀ a w,St x.M x.w0 x.H0 Hs σ w→aV x.D x.k a L→N a w
def Sr (x:Fr) (Hs:List Hp) (σ:aN) (q:Addr) (cs:List Value):Prop:=∀ w,St x.M x.w0 x.H0 Hs σ w→bC (hp w) q cs
section
variable {x:Fr} {Hs:List Hp} {σ:aN} {L:bX} {N:aP} {q:Addr} {cs:List Value}
theorem TG.ap {D:List Deferred} {k:Nat} {M:Prop} {w0:World} {H0:Hp} {a:Act} {w:World} (h:TG ⟨D,k,M,w0,H0⟩ Hs σ L N) (hS:St M w0 H0 Hs σ w) (hA:aV D k a L):N a w:=h a w hS hA
theorem sS (i:Nat) {K:Hp} (hi:Hs[i]?=some K) (h:bC K q cs):Sr x Hs σ q cs:=fun _ hS=>h.mono (hS.hp i hi)
theorem sO (t:Nat) {b:Nat} {ty:TypeId} (h:cE σ t=some (bF b ty cs)):Sr x Hs σ ⟨b,0,none⟩ cs:=fun _ hS=>cC (hS.get h)
theorem Sr.drop (h:Sr x Hs σ q cs) (i:Nat):Sr x Hs σ (q.add i) (cs.drop i):=fun w hS=>(h w hS).drop i
theorem Sr.take (h:Sr x Hs σ q cs) (i:Nat):Sr x Hs σ q (cs.take i):=fun w hS=>(h w hS).take i
def wZ (Hs:List Hp) (H:Hp):Prop:=∀ (i:Nat) (K:Hp),Hs[i]?=some K→K.le H
theorem wZ.at {H:Hp} (h:wZ Hs H) (i:Nat) {K:Hp} (hi:Hs[i]?=some K):K.le H:=h i K hi
theorem TG.pack (F:Hp→Prop) (h:∀ H,wZ Hs H→F H) (hn:∀ K,F K→TG x (K::Hs) σ L N):TG x Hs σ L N:=fun a w hS hA=>by
 obtain ⟨K,hS',hF⟩:=hS.pack (F:=F) (h _ fun i K hi=>hS.at i hi);exact hn K hF a w hS' hA
theorem TG.nilRow (tg:Nat) (el:TypeId) (size:Nat) (h:TG x Hs ((tg,.row none 0 el size 0 [])::σ) L N):TG x Hs σ L N:=fun a w hS hA=>h a w (hS.nilRow tg el size) hA
theorem TG.del (t:Nat) (h:TG x Hs (fK σ t) L N):TG x Hs σ L N:=fun a w hS hA=>h a w (hS.del t) hA
theorem TG.as (t:Nat) {y z:aR} (hx:cE σ t=some y) (he:y=z) (h:TG x Hs (dY σ t z) L N):TG x Hs σ L N:=fun a w hS hA=>h a w (hS.as t hx he) hA
theorem TG.still {α:Type} {enc:α→List Value} {size:Nat} (t:Nat) {ad:Option Addr} {cap:Nat} {el:TypeId} {l:List α} (hσ:cE σ t=some (.list ad cap el size enc l)) (he:∀ x,(enc x).length=size) (h:∀ K,Sl (aG enc) size K ad cap l→TG x (K::Hs) (fK σ t) L N):TG x Hs σ L N:=fun a w hS hA=>by
 obtain ⟨K,hS',hl⟩:=hS.listRest t hσ he;exact h K hl a w hS' hA
end
section
variable {P:Program} {r:Option Nat} {n rt:aP} {e:List (Nat×aP)} {p:List PanicEntry→aP} {x:Fr} {Hs:List Hp} {σ:aN} {L:bX}
theorem aS {M:Prop} {f:FuncId} {fn:Func} {c:Code} {nt:Nat} {w:World} {R:Ending→World→Prop} {l:List Value} (hf:P.funcs[f]?=some fn) (hb:fn.body=some c) (hn:fn.ntmps=nt) (hl:Nat.ble l.length nt=true) {H:Hp} (hH:H.le (hp w))
  (h:TG ⟨[],nt,M,w,H⟩ [H] [] (jC 0 l) (W P none c (Rt P fn R) (Rt P fn R) [] (fun ch a w=>a.defers=[]∧R (.panicked ch) w))):Calls P f l.toArray w R :=
 enter hf hb hn hl fun a hA=>h a w (St.start M w hH) hA
theorem sq {c d:Code} (h:TG x Hs σ L (W P r c (W P r d n rt e p) rt e p)):TG x Hs σ L (W P r (.seq c d) n rt e p):=fun a w hS hA=>OE (h a w hS hA)
theorem rg {id:Nat} {l:List Oper} (h:TG x Hs σ L (O P r l.toArray n p l)):TG x Hs σ L (W P r (.region id l.toArray false) n rt e p):=fun a w hS hA=>BL (h a w hS hA)
theorem on {ops:Array Oper} (h:TG x Hs σ L n):TG x Hs σ L (O P r ops n p []):=h
theorem sk (h:TG x Hs σ L n):TG x Hs σ L (W P r .skip n rt e p):=fun a w hS hA=>JQ (h a w hS hA)
theorem lb {l:Nat} (h:TG x Hs σ L n):TG x Hs σ L (W P r (.label l) n rt e p):=fun a w hS hA=>FY (h a w hS hA)
theorem bQ (h:TG x Hs σ L rt):TG x Hs σ L (W P r .ret n rt e p):=fun a w hS hA=>OF (h a w hS hA)
theorem xt {id:Nat} {K:aP} (hK:yE e id=some K) (h:TG x Hs σ L K):TG x Hs σ L (W P r (.exit id) n rt e p):=fun a w hS hA=>JR hK (h a w hS hA)
theorem bk {id:Nat} {c:Code} (h:TG x Hs σ L (W P r c n rt ((id,n)::e) p)):TG x Hs σ L (W P r (.block id c) n rt e p):=fun a w hS hA=>FZ (h a w hS hA)
theorem ci {c:Operand} {y z:Code} {q:Prop} [Decidable q] (hc:ev L c=some (.bool (decide q))) (h1:q→TG x Hs σ L (W P r y n rt e p)) (h2:¬q→TG x Hs σ L (W P r z n rt e p)):TG x Hs σ L (W P r (.cond c y z) n rt e p) :=
 fun a w hS hA=>UA hA hc (fun h=>h1 h a w hS hA) (fun h=>h2 h a w hS hA)
theorem cb {c:Operand} {y z:Code} {t:Bool} (hc:ev L c=some (.bool t)) (h1:t=true→TG x Hs σ L (W P r y n rt e p)) (h2:t=false→TG x Hs σ L (W P r z n rt e p)):TG x Hs σ L (W P r (.cond c y z) n rt e p) :=
 fun a w hS hA=>sV hA hc (fun h=>h1 h a w hS hA) (fun h=>h2 h a w hS hA)
theorem cT {c:Operand} {y z:Code} {t:Bool} (hc:ev L c=some (.bool t)) (ht:t=true) (h:TG x Hs σ L (W P r y n rt e p)):TG x Hs σ L (W P r (.cond c y z) n rt e p):=fun a w hS hA=>GJ hA hc ht (h a w hS hA)
theorem cF {c:Operand} {y z:Code} {t:Bool} (hc:ev L c=some (.bool t)) (ht:t=false) (h:TG x Hs σ L (W P r z n rt e p)):TG x Hs σ L (W P r (.cond c y z) n rt e p):=fun a w hS hA=>GK hA hc ht (h a w hS hA)
theorem jn {c:Code} (J:aP) (h:TG x Hs σ L (W P r c J rt e p)) (h2:∀ a w,J a w→n a w):TG x Hs σ L (W P r c n rt e p):=fun a w hS hA =>
 sU h2 (fun _ _ h=>h) (fun _ K _ _ hK h=>⟨K,hK,h⟩) (fun _ _ _ h=>h) (h a w hS hA)
theorem lp {c:Code} {s ε:Type} {step:s→Option (s⊕ε)} {s0:s} {z:ε} (hl:aQ step s0=some z) (I:s→aP) (h0:∀ a w,St x.M x.w0 x.H0 Hs σ w→aV x.D x.k a L→I s0 a w)
  (hI:∀ j s y,step s=some y→cK step j z y→∀ a w,I s a w→W P r c (fun a w=>∃ s',(∃ m,m < j∧wL step m s' z)∧I s' a w) rt e p a w):TG x Hs σ L (W P r (.loop c) n rt e p):=fun a w hS hA=>by
 obtain ⟨j,hj⟩:=GS hl;refine JS (fun j a w=>∃ s,wL step j s z∧I s a w) ⟨s0,hj,h0 a w hS hA⟩ ?_;rintro j a w ⟨s,hs,hi⟩;obtain ⟨y,h1,h2⟩:=hs.step;refine sU ?_ (fun _ _ h=>h) (fun _ K _ _ hK h=>⟨K,hK,h⟩) (fun _ _ _ h=>h) (hI j s y h1 h2 a w hi);rintro a w ⟨s',⟨m,hm,hl⟩,hi⟩;exact ⟨m,hm,s',hl,hi⟩
def Rd (P:Program) (r:Option Nat) (c:Code) (n rt:aP) (e:List (Nat×aP)) (p:List PanicEntry→aP) (m:Nat):aP:=Code.roundsIn (FW r) 0 P c (Q n rt e p) m
theorem lR {c:Code} (m:Nat) (h:TG x Hs σ L (Rd P r c n rt e p m)):TG x Hs σ L (W P r (.loop c) n rt e p):=fun a w hS hA=>wpIn_loop_rounds m (h a w hS hA)
theorem rd {c:Code} {m:Nat} (h:TG x Hs σ L (W P r c (Rd P r c n rt e p m) rt e p)):TG x Hs σ L (Rd P r c n rt e p (m+1)):=fun a w hS hA=>by
 show c.wpIn (FW r) 0 P _ a w;refine wpIn_mono (h a w hS hA) ?_;intro z a w hz;cases z <;> exact hz
end
end Pk
namespace Pk
open Go
section
variable {P:Program} {r:Option Nat} {n:aP} {p:List PanicEntry→aP} {ops:Array Oper} {rest:List Oper} {d:Nat} {ty:TypeId} {pos:String} {af:Array Edge} {x:Fr} {Hs:List Hp} {σ:aN} {L:bX}
abbrev OG (P:Program) (r:Option Nat) (ops:Array Oper) (n:aP) (p:List PanicEntry→aP) (x:Fr) (Hs:List Hp) (σ:aN) (L:bX) (l:List Oper):Prop:=TG x Hs σ L (O P r ops n p l)
theorem gN {op:Op} {dst:Option Nat} {j dj:Nat} {wt b:Bool} (hj:(ops[j]?).bind (·.dst)=some dj) (hb:lk L dj=some (.bool b)) (hw:b=wt) (h:OG P r ops n p x Hs σ L (⟨dst,op,ty,pos,af,none⟩::rest)):OG P r ops n p x Hs σ L (⟨dst,op,ty,pos,af,some (j,wt)⟩::rest):=fun a w hS hA=>OW hA hj hb hw (h a w hS hA)
theorem gF {op:Op} {j dj:Nat} {wt b:Bool} (hj:(ops[j]?).bind (·.dst)=some dj) (hb:lk L dj=some (.bool b)) (hw:b=!wt) (hd:Nat.blt d x.k=true) (h:OG P r ops n p x Hs σ ((d,undef)::L) rest):OG P r ops n p x Hs σ L (⟨some d,op,ty,pos,af,some (j,wt)⟩::rest):=fun a w hS hA=>KJ hA hj hb hw hd fun a hA=>h a w hS hA
theorem gU {op:Op} {j dj:Nat} {wt:Bool} (hj:(ops[j]?).bind (·.dst)=some dj) (hb:lk L dj=some undef) (hd:Nat.blt d x.k=true) (h:OG P r ops n p x Hs σ ((d,undef)::L) rest):OG P r ops n p x Hs σ L (⟨some d,op,ty,pos,af,some (j,wt)⟩::rest):=fun a w hS hA=>KP hA hj hb hd fun a hA=>h a w hS hA
theorem mv {y:Operand} {v:Value} (hd:Nat.blt d x.k=true) (hy:ev L y=some v) (h:OG P r ops n p x Hs σ ((d,v)::L) rest):OG P r ops n p x Hs σ L (⟨some d,.move y,ty,pos,af,none⟩::rest):=fun a w hS hA=>JT hA hd hy fun a hA=>h a w hS hA
theorem av {y:Operand} {v:Value} (hd:Nat.blt d x.k=true) (hy:ev L y=some v) (h:OG P r ops n p x Hs σ ((d,v)::L) rest):OG P r ops n p x Hs σ L (⟨some d,.assign y,ty,pos,af,none⟩::rest):=fun a w hS hA=>BM hA hd hy fun a hA=>h a w hS hA
theorem pT {c y z:Operand} {b:Bool} {v:Value} (hd:Nat.blt d x.k=true) (hc:ev L c=some (.bool b)) (hb:b=true) (hv:ev L y=some v) (h:OG P r ops n p x Hs σ ((d,v)::L) rest):OG P r ops n p x Hs σ L (⟨some d,.pick c y z,ty,pos,af,none⟩::rest):=fun a w hS hA=>GH hA hd hc hb hv fun a hA=>h a w hS hA
theorem pF {c y z:Operand} {b:Bool} {v:Value} (hd:Nat.blt d x.k=true) (hc:ev L c=some (.bool b)) (hb:b=false) (hv:ev L z=some v) (h:OG P r ops n p x Hs σ ((d,v)::L) rest):OG P r ops n p x Hs σ L (⟨some d,.pick c y z,ty,pos,af,none⟩::rest):=fun a w hS hA=>GI hA hd hc hb hv fun a hA=>h a w hS hA
theorem dF {y z:Operand} {t u:TypeId} {a b:Int} (hd:Nat.blt d x.k=true) (hy:ev L y=some (.int .i64 a)) (hz:ev L z=some (.int .i64 b)) (h1 : -9223372036854775808≤a+b∧a+b≤9223372036854775807) (h:OG P r ops n p x Hs σ ((d,.int .i64 (a+b))::L) rest):OG P r ops n p x Hs σ L (⟨some d,.binOp .add t y z u,ty,pos,af,none⟩::rest):=fun c w hS hA=>OI hA hd hy hz h1.1 h1.2 fun c hA=>h c w hS hA
theorem AC {y z:Operand} {t u:TypeId} {a b:Int} (hd:Nat.blt d x.k=true) (hy:ev L y=some (.int .i64 a)) (hz:ev L z=some (.int .i64 b)) (h1 : -9223372036854775808≤a - b∧a - b≤9223372036854775807) (h:OG P r ops n p x Hs σ ((d,.int .i64 (a - b))::L) rest):OG P r ops n p x Hs σ L (⟨some d,.binOp .sub t y z u,ty,pos,af,none⟩::rest):=fun c w hS hA=>OJ hA hd hy hz h1.1 h1.2 fun c hA=>h c w hS hA
theorem PA {y z:Operand} {t u:TypeId} {a b:Int} (hd:Nat.blt d x.k=true) (hy:ev L y=some (.int .i64 a)) (hz:ev L z=some (.int .i64 b)) (h1 : -9223372036854775808≤a*b∧a*b≤9223372036854775807) (h:OG P r ops n p x Hs σ ((d,.int .i64 (a*b))::L) rest):OG P r ops n p x Hs σ L (⟨some d,.binOp .mul t y z u,ty,pos,af,none⟩::rest):=fun c w hS hA=>OL hA hd hy hz h1.1 h1.2 fun c hA=>h c w hS hA
theorem rmI {y z:Operand} {t u:TypeId} {a b:Int} (hd:Nat.blt d x.k=true) (hy:ev L y=some (.int .i64 a)) (hz:ev L z=some (.int .i64 b)) (h1:0≤a∧0 < b) (h:OG P r ops n p x Hs σ ((d,.int .i64 (a%b))::L) rest):OG P r ops n p x Hs σ L (⟨some d,.binOp .rem t y z u,ty,pos,af,none⟩::rest):=fun c w hS hA=>OM hA hd hy hz h1.1 h1.2 fun c hA=>h c w hS hA
theorem wrI {op:BinOp} {y z:Operand} {t u:TypeId} {k:IntKind} {a b:Int} (v:Int) (hd:Nat.blt d x.k=true) (hy:ev L y=some (.int k a)) (hz:ev L z=some (.int k b)) (hv:(match op with | .add=>k.wrap (a+b)=v | .sub=>k.wrap (a - b)=v | .mul=>k.wrap (a*b)=v | _=>False)) (h:OG P r ops n p x Hs σ ((d,.int k v)::L) rest):OG P r ops n p x Hs σ L (⟨some d,.binOp op t y z u,ty,pos,af,none⟩::rest):=fun c w hS hA=>JV v hA hd hy hz hv fun c hA=>h c w hS hA
theorem mH {y z:Operand} {t u:TypeId} {k:IntKind} {a b:Int} (hd:Nat.blt d x.k=true) (hy:ev L y=some (.int k a)) (hz:ev L z=some (.int k b)) (h:OG P r ops n p x Hs σ ((d,.bool (decide (a=b)))::L) rest):OG P r ops n p x Hs σ L (⟨some d,.binOp .eql t y z u,ty,pos,af,none⟩::rest):=fun c w hS hA=>UD hA hd hy hz fun c hA=>h c w hS hA
theorem rA {y z:Operand} {t u:TypeId} {k:IntKind} {a b:Int} (hd:Nat.blt d x.k=true) (hy:ev L y=some (.int k a)) (hz:ev L z=some (.int k b)) (h:OG P r ops n p x Hs σ ((d,.bool (decide (a≠b)))::L) rest):OG P r ops n p x Hs σ L (⟨some d,.binOp .neq t y z u,ty,pos,af,none⟩::rest):=fun c w hS hA=>UE hA hd hy hz fun c hA=>h c w hS hA
theorem dK {y z:Operand} {t u:TypeId} {k:IntKind} {a b:Int} (hd:Nat.blt d x.k=true) (hy:ev L y=some (.int k a)) (hz:ev L z=some (.int k b)) (h:OG P r ops n p x Hs σ ((d,.bool (decide (a < b)))::L) rest):OG P r ops n p x Hs σ L (⟨some d,.binOp .lss t y z u,ty,pos,af,none⟩::rest):=fun c w hS hA=>UF hA hd hy hz fun c hA=>h c w hS hA
theorem kI {y z:Operand} {t u:TypeId} {k:IntKind} {a b:Int} (hd:Nat.blt d x.k=true) (hy:ev L y=some (.int k a)) (hz:ev L z=some (.int k b)) (h:OG P r ops n p x Hs σ ((d,.bool (decide (a≤b)))::L) rest):OG P r ops n p x Hs σ L (⟨some d,.binOp .leq t y z u,ty,pos,af,none⟩::rest):=fun c w hS hA=>UG hA hd hy hz fun c hA=>h c w hS hA
theorem lG {y z:Operand} {t u:TypeId} {k:IntKind} {a b:Int} (hd:Nat.blt d x.k=true) (hy:ev L y=some (.int k a)) (hz:ev L z=some (.int k b)) (h:OG P r ops n p x Hs σ ((d,.bool (decide (b < a)))::L) rest):OG P r ops n p x Hs σ L (⟨some d,.binOp .gtr t y z u,ty,pos,af,none⟩::rest):=fun c w hS hA=>UH hA hd hy hz fun c hA=>h c w hS hA
theorem rS {y z:Operand} {t u:TypeId} {k:IntKind} {a b:Int} (hd:Nat.blt d x.k=true) (hy:ev L y=some (.int k a)) (hz:ev L z=some (.int k b)) (h:OG P r ops n p x Hs σ ((d,.bool (decide (b≤a)))::L) rest):OG P r ops n p x Hs σ L (⟨some d,.binOp .geq t y z u,ty,pos,af,none⟩::rest):=fun c w hS hA=>UI hA hd hy hz fun c hA=>h c w hS hA
theorem nt {y:Operand} {t:TypeId} {b:Bool} (hd:Nat.blt d x.k=true) (hy:ev L y=some (.bool b)) (h:OG P r ops n p x Hs σ ((d,.bool (!b))::L) rest):OG P r ops n p x Hs σ L (⟨some d,.unOp .not t y,ty,pos,af,none⟩::rest):=fun c w hS hA=>ON hA hd hy fun c hA=>h c w hS hA
theorem cvI {src dst:TypeId} {y:Operand} {k k':IntKind} {m v:Int} {ds:TypeDesc} (hs:P.underlying src=some ds) (hdst:P.underlying dst=some (.int k')) (hd:Nat.blt d x.k=true) (hy:ev L y=some (.int k m)) (hv:k'.wrap m=v) (h:OG P r ops n p x Hs σ ((d,.int k' v)::L) rest):OG P r ops n p x Hs σ L (⟨some d,.convert src dst y,ty,pos,af,none⟩::rest):=fun c w hS hA=>JW hA hd hy hs hdst hv fun c hA=>h c w hS hA
theorem cvB {src dst el:TypeId} {y:Operand} {s:aF} (hs:P.underlying src=some .string) (hdst:P.underlying dst=some (.slice el)) (he:P.underlying el=some (.int .u8)) (hd:Nat.blt d x.k=true) (hy:ev L y=some (.string (bs s))) (hlen:s.length≤1073741824) (h:∀ ad cap K,Sl (aG uN) 1 K ad cap s→OG P r ops n p x (K::Hs) σ ((d,.slice ad s.length cap)::L) rest):OG P r ops n p x Hs σ L (⟨some d,.convert src dst y,ty,pos,af,none⟩::rest):=fun c w hS hA=>GP hA hd hS hy hs hdst he hlen fun ad cap K w' hl hS c hA=>h ad cap K hl c w' hS hA
theorem TD {y z:Operand} {t u:TypeId} {a b:aF} (hd:Nat.blt d x.k=true) (hy:ev L y=some (.string (bs a))) (hz:ev L z=some (.string (bs b))) (h:OG P r ops n p x Hs σ ((d,.bool (decide (a=b)))::L) rest):OG P r ops n p x Hs σ L (⟨some d,.binOp .eql t y z u,ty,pos,af,none⟩::rest):=fun c w hS hA=>GA hA hd hy hz fun c hA=>h c w hS hA
theorem neS {y z:Operand} {t u:TypeId} {a b:aF} (hd:Nat.blt d x.k=true) (hy:ev L y=some (.string (bs a))) (hz:ev L z=some (.string (bs b))) (h:OG P r ops n p x Hs σ ((d,.bool (decide (a≠b)))::L) rest):OG P r ops n p x Hs σ L (⟨some d,.binOp .neq t y z u,ty,pos,af,none⟩::rest):=fun c w hS hA=>GB hA hd hy hz fun c hA=>h c w hS hA
theorem NF {α:Type} [DecidableEq α] {enc:α→List Value} {t u:TypeId} {y z:Operand} (a b:α) (he:uM P t enc) (hd:Nat.blt d x.k=true) (hy:ev L y=some (.agg (enc a).toArray)) (hz:ev L z=some (.agg (enc b).toArray)) (h:OG P r ops n p x Hs σ ((d,.bool (decide (a=b)))::L) rest):OG P r ops n p x Hs σ L (⟨some d,.binOp .eql t y z u,ty,pos,af,none⟩::rest):=fun c w hS hA=>BV a b hA hd he hy hz fun c hA=>h c w hS hA
theorem neA {α:Type} [DecidableEq α] {enc:α→List Value} {t u:TypeId} {y z:Operand} (a b:α) (he:uM P t enc) (hd:Nat.blt d x.k=true) (hy:ev L y=some (.agg (enc a).toArray)) (hz:ev L z=some (.agg (enc b).toArray)) (h:OG P r ops n p x Hs σ ((d,.bool (!decide (a=b)))::L) rest):OG P r ops n p x Hs σ L (⟨some d,.binOp .neq t y z u,ty,pos,af,none⟩::rest):=fun c w hS hA=>BW a b hA hd he hy hz fun c hA=>h c w hS hA
theorem neB {t u:TypeId} {y z:Operand} {a b:Bool} (hu:P.underlying t=some .bool) (hd:Nat.blt d x.k=true) (hy:ev L y=some (.bool a)) (hz:ev L z=some (.bool b)) (h:OG P r ops n p x Hs σ ((d,.bool (!(a==b)))::L) rest):OG P r ops n p x Hs σ L (⟨some d,.binOp .neq t y z u,ty,pos,af,none⟩::rest):=fun c w hS hA=>KN hA hd hy hz hu fun c hA=>h c w hS hA
theorem slN {t u el:TypeId} {y:Operand} {ad:Option Addr} {l c:Nat} (hu:P.underlying t=some (.slice el)) (hd:Nat.blt d x.k=true) (hy:ev L y=some (.slice ad l c)) (h:OG P r ops n p x Hs σ ((d,.bool ad.isNone)::L) rest):OG P r ops n p x Hs σ L (⟨some d,.binOp .eql t y (.const (.slice none 0 0)) u,ty,pos,af,none⟩::rest):=fun c w hS hA=>GN hA hd hy hu fun c hA=>h c w hS hA
theorem FN {y:Operand} {t tl:TypeId} {s:aF} (ht:P.underlying t=some .string) (hd:Nat.blt d x.k=true) (hy:ev L y=some (.string (bs s))) (h:OG P r ops n p x Hs σ ((d,.int .i64 s.length)::L) rest):OG P r ops n p x Hs σ L (⟨some d,.call ⟨.builtin .len,#[y],#[t]⟩,tl,pos,af,none⟩::rest):=fun c w hS hA=>JX hA hd hy ht fun c hA=>h c w hS hA
theorem cL {y:Operand} {t tl el:TypeId} {ad:Option Addr} {l c:Nat} (ht:P.underlying t=some (.slice el)) (hd:Nat.blt d x.k=true) (hy:ev L y=some (.slice ad l c)) (h:OG P r ops n p x Hs σ ((d,.int .i64 l)::L) rest):OG P r ops n p x Hs σ L (⟨some d,.call ⟨.builtin .len,#[y],#[t]⟩,tl,pos,af,none⟩::rest):=fun c w hS hA=>OO hA hd hy ht fun c hA=>h c w hS hA
theorem NG {y i:Operand} {t:TypeId} {s:aF} {k:IntKind} {m:Int} {j:Nat} {c:UInt8} (ht:P.underlying t=some .string) (hd:Nat.blt d x.k=true) (hy:ev L y=some (.string (bs s))) (hi:ev L i=some (.int k m)) (hm:m=(j:Int)) (hj:s[j]?=some c) (h:OG P r ops n p x Hs σ ((d,.int .u8 c.toNat)::L) rest):OG P r ops n p x Hs σ L (⟨some d,.index t y i,ty,pos,af,none⟩::rest):=fun c w hS hA=>JY hA hd hy hi hm hj ht fun c hA=>h c w hS hA
theorem mn2 {y z:Operand} {ats:Array TypeId} {k:IntKind} {a b:Int} (hd:Nat.blt d x.k=true) (hy:ev L y=some (.int k a)) (hz:ev L z=some (.int k b)) (h:OG P r ops n p x Hs σ ((d,.int k (min a b))::L) rest):OG P r ops n p x Hs σ L (⟨some d,.call ⟨.builtin .min,#[y,z],ats⟩,ty,pos,af,none⟩::rest):=fun c w hS hA=>KK hA hd hy hz fun c hA=>h c w hS hA
theorem mx2 {y z:Operand} {ats:Array TypeId} {k:IntKind} {a b:Int} (hd:Nat.blt d x.k=true) (hy:ev L y=some (.int k a)) (hz:ev L z=some (.int k b)) (h:OG P r ops n p x Hs σ ((d,.int k (max a b))::L) rest):OG P r ops n p x Hs σ L (⟨some d,.call ⟨.builtin .max,#[y,z],ats⟩,ty,pos,af,none⟩::rest):=fun c w hS hA=>KL hA hd hy hz fun c hA=>h c w hS hA
theorem ld {t:TypeId} {y:Operand} {ad:Addr} {cs:List Value} {v:Value} (hag:∀ w,(isAgg t).run P w=.ok false w) (hd:Nat.blt d x.k=true) (hy:ev L y=some (.pointer (some ad))) (hc:Sr x Hs σ ad cs) (hv:cs[0]?=some v) (h:OG P r ops n p x Hs σ ((d,v)::L) rest):OG P r ops n p x Hs σ L (⟨some d,.load t y,ty,pos,af,none⟩::rest):=fun c w hS hA=>JZ hA hd hy hag (hc w hS) hv fun c hA=>h c w hS hA
theorem cG {t:TypeId} {y:Operand} {ad:Addr} {cs:List Value} {s:Nat} (hag:∀ w,(isAgg t).run P w=.ok true w) (hz:∀ w,(Go.sizeOf t).run P w=.ok s w) (hd:Nat.blt d x.k=true) (hy:ev L y=some (.pointer (some ad))) (hc:Sr x Hs σ ad cs) (hl:cs.length=s) (h:OG P r ops n p x Hs σ ((d,.agg cs.toArray)::L) rest):OG P r ops n p x Hs σ L (⟨some d,.load t y,ty,pos,af,none⟩::rest):=fun c w hS hA=>GD hA hd hy hag hz (hc w hS) hl fun c hA=>h c w hS hA
theorem fb {s:TypeId} {y:Operand} {ad:Addr} {i sz:Nat} (off:Nat) {fs:Array Field} {f:Field} (hu:P.underlying s=some (.struct fs)) (hd:Nat.blt d x.k=true) (hy:ev L y=some (.pointer (some ad))) (hf:fs[i]?=some f) (ho:f.offset=off) (hz:∀ w,(Go.sizeOf f.type).run P w=.ok (sz+1) w) (h:OG P r ops n p x Hs σ ((d,.pointer (some (ad.add off)))::L) rest):OG P r ops n p x Hs σ L (⟨some d,.fieldAddr s y i,ty,pos,af,none⟩::rest):=fun c w hS hA=>UL off hA hd hy hu hf ho hz fun c hA=>h c w hS hA
theorem cX {q:Addr} {size ln c:Nat} {y i:Operand} {t el:TypeId} {k:IntKind} {m:Int} {j:Nat} (hu:P.underlying t=some (.slice el)) (hz:∀ w,(Go.sizeOf el).run P w=.ok size w) (hd:Nat.blt d x.k=true) (hy:ev L y=some (.slice (some q) ln c)) (hi:ev L i=some (.int k m)) (hm:m=(j:Int)) (hj:j < ln) (h:OG P r ops n p x Hs σ ((d,.pointer (some (q.add (j*size))))::L) rest):OG P r ops n p x Hs σ L (⟨some d,.indexAddr t y i,ty,pos,af,none⟩::rest):=fun c w hS hA=>OQ hA hd hy hi hu hz hm hj fun c hA=>h c w hS hA
theorem UM {q:Addr} {size ln:Nat} {y i:Operand} {t el:TypeId} {k:IntKind} {m:Int} {j:Nat} (hu:P.underlying t=some (.array ln el)) (hz:∀ w,(Go.sizeOf el).run P w=.ok size w) (hd:Nat.blt d x.k=true) (hy:ev L y=some (.pointer (some q))) (hi:ev L i=some (.int k m)) (hm:m=(j:Int)) (hj:j < ln) (h:OG P r ops n p x Hs σ ((d,.pointer (some (q.add (j*size))))::L) rest):OG P r ops n p x Hs σ L (⟨some d,.indexAddr t y i,ty,pos,af,none⟩::rest):=fun c w hS hA=>OR hA hd hy hi hu hz hm hj fun c hA=>h c w hS hA
theorem nl {y:Operand} {q:Addr} (hd:Nat.blt d x.k=true) (hy:ev L y=some (.pointer (some q))) (h:OG P r ops n p x Hs σ ((d,.pointer (some q))::L) rest):OG P r ops n p x Hs σ L (⟨some d,.nilCheck y,ty,pos,af,none⟩::rest):=fun c w hS hA=>OS hA hd hy fun c hA=>h c w hS hA
theorem ex {y:Operand} {vs:List Value} {i:Nat} {v:Value} (hd:Nat.blt d x.k=true) (hy:ev L y=some (.tuple vs.toArray)) (hv:vs[i]?=some v) (h:OG P r ops n p x Hs σ ((d,v)::L) rest):OG P r ops n p x Hs σ L (⟨some d,.extract y i,ty,pos,af,none⟩::rest):=fun c w hS hA=>OT hA hd hy hv fun c hA=>h c w hS hA
theorem fn {f:Fn} {xs ys:List Operand} {us vs:List Value} (hd:Nat.blt d x.k=true) (h1:oV L xs=some us) (h2:oV L ys=some vs) (h:OG P r ops n p x Hs σ ((d,.func f us.toArray vs.toArray)::L) rest):OG P r ops n p x Hs σ L (⟨some d,.makeFunc f xs.toArray ys.toArray,ty,pos,af,none⟩::rest):=fun c w hS hA=>KA hA hd h1 h2 fun c hA=>h c w hS hA
theorem fi {t:TypeId} {y:Operand} {v:Value} {ds:TypeDesc} (hu:P.underlying t=some ds) (hd:Nat.blt d x.k=true) (hy:ev L y=some v) (hds:(match ds with | .interface _=>false | _=>true)=true) (h:OG P r ops n p x Hs σ ((d,.iface t v)::L) rest):OG P r ops n p x Hs σ L (⟨some d,.makeInterface t y,ty,pos,af,none⟩::rest):=fun c w hS hA=>GE hA hd hy hu hds fun c hA=>h c w hS hA
theorem bI {t:TypeId} {y:Operand} {v:Value} {cs:List Value} (hd:Nat.blt d x.k=true) (hy:ev L y=some v) (hv:bT v=cs) (h:∀ q K,bC K q cs→OG P r ops n p x (K::Hs) σ ((d,.pointer (some q))::L) rest):OG P r ops n p x Hs σ L (⟨some d,.box t y,ty,pos,af,none⟩::rest):=fun c w hS hA=>KB hA hd hS hy hv fun q K w' hK hS c hA=>h q K hK c w' hS hA
theorem bO (tg:Nat) {t:TypeId} {y:Operand} {v:Value} {cs:List Value} (hd:Nat.blt d x.k=true) (hy:ev L y=some v) (hv:bT v=cs) (h:∀ b,OG P r ops n p x Hs ((tg,bF b t cs)::σ) ((d,.pointer (some ⟨b,0,none⟩))::L) rest):OG P r ops n p x Hs σ L (⟨some d,.box t y,ty,pos,af,none⟩::rest):=fun c w hS hA=>KC tg hA hd hS hy hv fun b w' hS _ c hA=>h b c w' hS hA
theorem al (tg:Nat) {t:TypeId} {z:Value} {cs:List Value} (hz:∀ w,(zeroValue t).run P w=.ok z w) (hd:Nat.blt d x.k=true) (hv:bT z=cs) (h:∀ b,OG P r ops n p x Hs ((tg,bF b t cs)::σ) ((d,.pointer (some ⟨b,0,none⟩))::L) rest):OG P r ops n p x Hs σ L (⟨some d,.alloc t,ty,pos,af,none⟩::rest):=fun c w hS hA=>yF tg hA hd hS hz hv fun b w' hS _ c hA=>h b c w' hS hA
theorem fY (tg:Nat) {t t0:TypeId} {y z:Operand} {v:Value} {cs l:List Value} {b off s:Nat} (hs:∀ w,(Go.sizeOf t).run P w=.ok s w) (hy:ev L y=some (.pointer (some ⟨b,off,none⟩))) (hz:ev L z=some v) (hσ:cE σ tg=some (bF b t0 l)) (hv:bT v=cs) (hcl:cs.length=s) (h1:cs.all (·.oneCell')=true) (hfit:Nat.ble (off+s) l.length=true) (h:OG P r ops n p x Hs (dY σ tg (bF b t0 (lT l off cs))) L rest):OG P r ops n p x Hs σ L (⟨none,.store t y z,ty,pos,af,none⟩::rest):=fun c w hS hA=>sY tg hA hS hy hz hs hσ hv hcl h1 hfit fun w' hS c hA=>h c w' hS hA
theorem va {t:TypeId} {z v:Value} {cs zs:List Value} {y:Operand} {s:Nat} {ty':TypeId} {pos':String} {af':Array Edge} (hz:∀ w,(zeroValue t).run P w=.ok z w) (hs:∀ w,(Go.sizeOf t).run P w=.ok s w) (hd:Nat.blt d x.k=true) (hy:ev L y=some v) (hxd:pU d y=false) (hv:bT v=cs) (hzl:bT z=zs) (hzs:zs.length=s) (hcl:cs.length=s) (h1:cs.all (·.oneCell')=true) (h:∀ q K,bC K q cs→OG P r ops n p x (K::Hs) σ ((d,.pointer (some q))::L) rest):OG P r ops n p x Hs σ L (⟨some d,.alloc t,ty,pos,af,none⟩::⟨none,.store t (.tmp d) y,ty',pos',af',none⟩::rest):=fun c w hS hA=>OU hA hd hS hz hs hy hxd hv hzl hzs hcl h1 fun q K w' hK hS c hA=>h q K hK c w' hS hA
theorem bu {t:TypeId} {xs:List (Nat×Operand)} {vs:List (Nat×Value)} {z cs:List Value} {pl:Array (Nat×Nat)} (hb:dI P t z pl) (hd:Nat.blt d x.k=true) (hx:fC L xs=some vs) (hf:gK (pl[·]?) z vs=some cs) (h:OG P r ops n p x Hs σ ((d,.agg cs.toArray)::L) rest):OG P r ops n p x Hs σ L (⟨some d,.build t xs.toArray,ty,pos,af,none⟩::rest):=fun c w hS hA=>GF hA hd hb hx hf fun c hA=>h c w hS hA
theorem bS {t el:TypeId} {xs:List (Nat×Operand)} {vs:List (Nat×Value)} {z cs:List Value} {size bytes ln:Nat} (he:cP P t el z size bytes) (hd:Nat.blt d x.k=true) (h0:Nat.ble (ln*size) 16777216=true) (hx:fC L xs=some vs) (hf:gK (fun i=>some (i*size,size)) (eD z ln) vs=some cs) (h:∀ q K,q.spot=none→bC K q cs→OG P r ops n p x (K::Hs) σ ((d,.slice (some q) ln ln)::L) rest):OG P r ops n p x Hs σ L (⟨some d,.buildSlice t ln xs.toArray,ty,pos,af,none⟩::rest):=fun c w hS hA=>BS hA hd hS he h0 hx hf fun q K w' hq hK hS c hA=>h q K hq hK c w' hS hA
theorem bSO (tg:Nat) {t el:TypeId} {xs:List (Nat×Operand)} {vs:List (Nat×Value)} {z cs:List Value} {size bytes ln:Nat} (he:cP P t el z size bytes) (hd:Nat.blt d x.k=true) (h0:Nat.ble (ln*size) 16777216=true) (hx:fC L xs=some vs) (hf:gK (fun i=>some (i*size,size)) (eD z ln) vs=some cs) (h:∀ b,OG P r ops n p x Hs ((tg,.row (some ⟨b,0,none⟩) ln el size ln cs)::σ) ((d,.slice (some ⟨b,0,none⟩) ln ln)::L) rest):OG P r ops n p x Hs σ L (⟨some d,.buildSlice t ln xs.toArray,ty,pos,af,none⟩::rest):=fun c w hS hA=>KD tg hA hd hS he h0 hx hf fun b w' hS _ c hA=>h b c w' hS hA
theorem TE {α:Type} {R:Hp→List Value→α→Prop} {size:Nat} {H:Hp} {l:List α} {ad:Option Addr} {cap ln:Nat} {t el:TypeId} {y lo hi:Operand} (i j:Nat) {kl kh:IntKind} {ml mh:Int} (hu:P.underlying t=some (.slice el)) (hz:∀ w,(Go.sizeOf el).run P w=.ok size w) (hl:Sl R size H ad cap l) (hd:Nat.blt d x.k=true) (hy:ev L y=some (.slice ad ln cap)) (hln:ln=l.length) (hlo:ev L lo=some (.int kl ml)) (hhi:ev L hi=some (.int kh mh)) (hi1:ml=(i:Int)) (hj1:mh=(j:Int)) (hij:i≤j∧j≤l.length) (h:∀ ad' cap',Sl R size H ad' cap' ((l.drop i).take (j - i))→OG P r ops n p x Hs σ ((d,.slice ad' ((l.drop i).take (j - i)).length cap')::L) rest):OG P r ops n p x Hs σ L (⟨some d,.slice t y (some lo) (some hi) none,ty,pos,af,none⟩::rest):=fun c w hS hA=>OX i j hA hd hy hu hz hl hln hlo hhi hi1 hj1 hij.1 hij.2 fun ad' cap' hl c hA=>h ad' cap' hl c w hS hA
theorem slF {α:Type} {R:Hp→List Value→α→Prop} {size:Nat} {H:Hp} {l:List α} {ad:Option Addr} {cap ln:Nat} {t el:TypeId} {y lo:Operand} (i:Nat) {kl:IntKind} {ml:Int} (hu:P.underlying t=some (.slice el)) (hz:∀ w,(Go.sizeOf el).run P w=.ok size w) (hl:Sl R size H ad cap l) (hd:Nat.blt d x.k=true) (hy:ev L y=some (.slice ad ln cap)) (hln:ln=l.length) (hlo:ev L lo=some (.int kl ml)) (hi1:ml=(i:Int)) (hij:i≤l.length) (h:∀ ad' cap',Sl R size H ad' cap' (l.drop i)→OG P r ops n p x Hs σ ((d,.slice ad' (l.drop i).length cap')::L) rest):OG P r ops n p x Hs σ L (⟨some d,.slice t y (some lo) none none,ty,pos,af,none⟩::rest):=fun c w hS hA=>OY i hA hd hy hu hz hl hln hlo hi1 hij fun ad' cap' hl c hA=>h ad' cap' hl c w hS hA
theorem slT {α:Type} {R:Hp→List Value→α→Prop} {size:Nat} {H:Hp} {l:List α} {ad:Option Addr} {cap ln:Nat} {t el:TypeId} {y hi:Operand} (j:Nat) {kh:IntKind} {mh:Int} (hu:P.underlying t=some (.slice el)) (hz:∀ w,(Go.sizeOf el).run P w=.ok size w) (hl:Sl R size H ad cap l) (hd:Nat.blt d x.k=true) (hy:ev L y=some (.slice ad ln cap)) (hln:ln=l.length) (hhi:ev L hi=some (.int kh mh)) (hj1:mh=(j:Int)) (hj:j≤l.length) (h:∀ ad' cap',Sl R size H ad' cap' (l.take j)→OG P r ops n p x Hs σ ((d,.slice ad' (l.take j).length cap')::L) rest):OG P r ops n p x Hs σ L (⟨some d,.slice t y none (some hi) none,ty,pos,af,none⟩::rest):=fun c w hS hA=>OZ j hA hd hy hu hz hl hln hhi hj1 hj fun ad' cap' hl c hA=>h ad' cap' hl c w hS hA
theorem NH (tg:Nat) {α:Type} (enc:α→List Value) {l:List α} (x1:α) {t el:TypeId} {s y:Operand} {v:Value} {z:List Value} {size bytes d1:Nat} {ad:Option Addr} {cap nn:Nat} {ty1:TypeId} {pos1:String} {af1:Array Edge} (he:cP P t el z size bytes) (hd:Nat.blt d x.k=true) (hd1:Nat.blt d1 x.k=true) (hs:ev L s=some (.slice ad nn cap)) (hsd:pU d1 s=false) (hσ:cE σ tg=some (.list ad cap el size enc l)) (hn:nn=l.length) (hx:ev L y=some v) (hv:bT v=enc x1) (hcl:(enc x1).length=size) (h1:(enc x1).all (·.oneCell')=true) (h0:Nat.ble size 16777216=true) (hby:Nat.ble bytes 131072=true) (h2:l.length+1≤1073741824) (h:∀ ad' cap' u,OG P r ops n p x Hs (dY σ tg (.list ad' cap' el size enc (l++[x1]))) ((d,.slice ad' (l++[x1]).length cap')::(d1,u)::L) rest):OG P r ops n p x Hs σ L (⟨some d1,.buildSlice t 1 #[(0,y)],ty1,pos1,af1,none⟩::⟨some d,.call ⟨.builtin .append,#[s,.tmp d1],#[t,t]⟩,ty,pos,af,none⟩::rest):=fun c w hS hA=>GL tg x1 hA hd hd1 hS he hs hsd hσ hn hx hv hcl h1 h0 h2 hby fun ad' cap' w' u hS c hA=>h ad' cap' u c w' hS hA
theorem wM (tg:Nat) {α:Type} {enc:α→List Value} {l m:List α} {H:Hp} {t el:TypeId} {s y:Operand} {z:List Value} {size bytes:Nat} {ad sad:Option Addr} {cap nn mm c:Nat} (he:cP P t el z size bytes) (hd:Nat.blt d x.k=true) (hs:ev L s=some (.slice ad nn cap)) (hσ:cE σ tg=some (.list ad cap el size enc l)) (hn:nn=l.length) (hx:ev L y=some (.slice sad mm c)) (hmm:mm=m.length) (hm:Sl (aG enc) size H sad c m) (i:Nat) (hi:Hs[i]?=some H) (hl:∀ x,(enc x).length=size) (ho:∀ x,(enc x).all (·.oneCell')=true) (hby:Nat.ble bytes 131072=true) (h0:l.length+m.length≤1073741824) (h:∀ ad' cap',OG P r ops n p x Hs (dY σ tg (.list ad' cap' el size enc (l++m))) ((d,.slice ad' (l++m).length cap')::L) rest):OG P r ops n p x Hs σ L (⟨some d,.call ⟨.builtin .append,#[s,y],#[t,t]⟩,ty,pos,af,none⟩::rest):=fun c w hS hA=>KO tg hA hd hS he hs hσ hn hx hmm hm (hS.hp i hi) hl ho h0 hby fun ad' cap' w' hS c hA=>h ad' cap' c w' hS hA
theorem cZ {y:Operand} {xs:List Operand} {ats:Array TypeId} {f:FuncId} {first cap:List Value} {vs args:List Value} {v:Value} (hcall:∀ args w,(callFunc f args).run P w=.ok (.enter f args) w) (hd:Nat.blt d x.k=true) (hf:ev L y=some (.func (.func f) first.toArray cap.toArray)) (hxs:oV L xs=some vs) (hargs:first++vs++cap=args) (hc:∀ w H,H.le (hp w)→wZ Hs H→Calls P f args.toArray w (bV x.M w v)) (h:OG P r ops n p x Hs σ ((d,v)::L) rest):OG P r ops n p x Hs σ L (⟨some d,.call ⟨.value y,xs.toArray,ats⟩,ty,pos,af,none⟩::rest) :=
 fun c w hS hA=>sW hA hd hS hf hxs hcall hargs (hc w (hQ x.w0 x.H0 σ w) hS.vis_le fun i K hi=>hS.at i hi) fun w' hS c hA=>h c w' hS hA
theorem gB {y:Operand} {xs:List Operand} {ats:Array TypeId} {f:FuncId} {first cap:List Value} {vs args:List Value} {R:Value→Hp→Prop} (hcall:∀ args w,(callFunc f args).run P w=.ok (.enter f args) w) (hd:Nat.blt d x.k=true) (hf:ev L y=some (.func (.func f) first.toArray cap.toArray)) (hxs:oV L xs=some vs) (hargs:first++vs++cap=args) (hc:∀ w H,H.le (hp w)→wZ Hs H→Calls P f args.toArray w (hU x.M H w R)) (h:∀ v K,R v K→OG P r ops n p x (K::Hs) σ ((d,v)::L) rest):OG P r ops n p x Hs σ L (⟨some d,.call ⟨.value y,xs.toArray,ats⟩,ty,pos,af,none⟩::rest) :=
 fun c w hS hA=>GC hA hd hS hf hxs hcall hargs (hc w (hQ x.w0 x.H0 σ w) hS.vis_le fun i K hi=>hS.at i hi) fun v K w' hR hS c hA=>h v K hR c w' hS hA
theorem nN {y:Operand} {xs:List Operand} {ats:Array TypeId} {fv v:Value} {H:Hp} {S:Hp→List Value→Value→Prop} {vs:List Value} (hF:eS x.M P H fv S) (i:Nat) (hi:Hs[i]?=some H) (hd:Nat.blt d x.k=true) (hf:ev L y=some fv) (hxs:oV L xs=some vs) (hv:∀ H,wZ Hs H→S H vs v) (h:OG P r ops n p x Hs σ ((d,v)::L) rest):OG P r ops n p x Hs σ L (⟨some d,.call ⟨.value y,xs.toArray,ats⟩,ty,pos,af,none⟩::rest) :=
 fun c w hS hA=>GO hA hd hS hf hF (hS.at i hi) hxs (hv _ fun i K hi=>hS.at i hi) fun w' hS c hA=>h c w' hS hA
theorem UN {y:Operand} {xs:List Operand} {ats:Array TypeId} {f:FuncId} {first cap:List Value} {vs args:List Value} {v:Value} (hcall:∀ args w,(callFunc f args).run P w=.ok (.enter f args) w) (hd:Nat.blt d x.k=true) (hf:ev L y=some (.func (.func f) first.toArray cap.toArray)) (hxs:oV L xs=some vs) (hargs:first++vs++cap=args) (hc:∀ w,St x.M x.w0 x.H0 Hs σ w→Calls P f args.toArray w (bV x.M w v)) (h:OG P r ops n p x Hs σ ((d,v)::L) rest):OG P r ops n p x Hs σ L (⟨some d,.call ⟨.value y,xs.toArray,ats⟩,ty,pos,af,none⟩::rest) :=
 fun c w hS hA=>sW hA hd hS hf hxs hcall hargs (hc w hS) fun w' hS c hA=>h c w' hS hA
theorem uP {y:Operand} {xs:List Operand} {ats:Array TypeId} {f:FuncId} {fnc:Func} {cd:Code} {nt:Nat} {first cap:List Value} {vs args:List Value} {dst:Option Nat} (hcall:∀ args w,(callFunc f args).run P w=.ok (.enter f args) w) (hfn:P.funcs[f]?=some fnc) (hb:fnc.body=some cd) (hn:fnc.ntmps=nt) (hf:ev L y=some (.func (.func f) first.toArray cap.toArray)) (hxs:oV L xs=some vs) (hargs:first++vs++cap=args) (hl:Nat.ble args.length nt=true) (J:Value→World→Prop)
  (h1:TG ⟨[],nt,x.M,x.w0,x.H0⟩ Hs σ (jC 0 args) (W P none cd (Rt P fnc fun e w=>∃ v,e=.returned v∧J v w) (Rt P fnc fun e w=>∃ v,e=.returned v∧J v w) [] (fun _ _ _=>False)))
  (h2:∀ a w v,aV x.D x.k a L→J v w→O P r ops n p rest (a.put dst v) w):OG P r ops n p x Hs σ L (⟨dst,.call ⟨.value y,xs.toArray,ats⟩,ty,pos,af,none⟩::rest):=fun c w hS hA=>by
 subst hargs;have hcs:Calls P f (first++vs++cap).toArray w (fun e w=>∃ v,e=.returned v∧J v w):=enter hfn hb hn hl fun a hA'=>by
  refine sU (fun _ _ h=>h) (fun _ _ h=>h) (fun _ K _ _ hK h=>⟨K,hK,h⟩) (fun _ _ _ h=>h.elim) (h1 a w hS hA')
 refine mK rfl (fun _ h=>by cases h) (kC hA hf hxs hcall) (by simpa using hcs) ?_ ?_ ?_
 ·rintro v w' ⟨u,hu,hJ⟩;cases hu;exact h2 c w' v hA hJ
 ·rintro ch w' ⟨u,hu,_⟩;cases hu
 rintro w' ⟨u,hu,_⟩;cases hu
theorem fE {d:Nat} {v:Value} {a:Act} {w:World} {N:aP} (hd:Nat.blt d x.k=true) (hA:aV x.D x.k a L) (hS:St x.M x.w0 x.H0 Hs σ w) (h:TG x Hs σ ((d,v)::L) N):N (a.put (some d) v) w:=h _ w hS (hA.put hd v)
end
end Pk
namespace Pk
open Go
section
variable {x:Fr} {Hs:List Hp} {σ:aN} {L:bX} {N:aP}
theorem TG.addr (t:Nat) {ad:Option Addr} {cap:Nat} {e:TypeId} {size n:Nat} {xs:List Value} (ht:cE σ t=some (.row ad cap e size n xs)) (hn:0 < n) (h:∀ b,ad=some ⟨b,0,none⟩→TG x Hs σ L N):TG x Hs σ L N:=fun a w hS hA=>by
 obtain ⟨b,hb⟩:=BP (hS.get ht) hn;exact h b hb a w hS hA
theorem TG.len (t:Nat) {ad:Option Addr} {cap:Nat} {e:TypeId} {size n:Nat} {xs:List Value} (ht:cE σ t=some (.row ad cap e size n xs)) (h:n≤cap∧cap≤9223372036854775807→TG x Hs σ L N):TG x Hs σ L N:=fun a w hS hA=>h ⟨(sX (hS.get ht)).2,tE (hS.get ht)⟩ a w hS hA
theorem sE {α:Type} {enc:α→List Value} {size:Nat} (t:Nat) {p:Addr} {cap:Nat} {el:TypeId} {l:List α} {j:Nat} {y:α} (ht:cE σ t=some (.list (some p) cap el size enc l)) (he:∀ x,(enc x).length=size) (hj:l[j]?=some y):Sr x Hs σ (p.add (j*size)) (enc y):=fun w hS=>by
 have h1:=(BO (hS.get ht)).drop (j*size);refine ⟨h1.1,fun i v hi=>h1.2 i v ?_⟩;rw [List.getElem?_drop];exact pZ he l j y hj i v hi
theorem UO {α:Type} {R:Hp→List Value→α→Prop} {size:Nat} {css:List (List Value)} {l:List α} {j:Nat} {y:α} {K:Hp} (hR:Rows R size K css l) (hj:l[j]?=some y):∃ cs,R K cs y∧cs.length=size∧css[j]?=some cs∧∀ {x:Fr} {Hs:List Hp} {σ:aN} {t:Nat} {p:Addr} {cap:Nat} {el:TypeId},cE σ t=some (.rows (some p) cap el size css l)→Sr x Hs σ (p.add (j*size)) cs:=by
 obtain ⟨cs,h1,h2,h3,h4⟩:=hR.get j y hj;refine ⟨cs,h3,h2,h1,fun {x Hs σ t p cap el} ht w hS=>?_⟩;have h5:=(BO (hS.get ht)).drop (j*size);refine ⟨h5.1,fun i v hi=>h5.2 i v ?_⟩;rw [List.getElem?_drop];exact h4 i v hi
end
theorem uQ {α:Type} {enc:α→List Value} {size:Nat} (he:∀ x,(enc x).length=size) (y:α) (off:Nat) (cs:List Value):∀ (l:List α) (j:Nat) (z:α),l[j]?=some z→off+cs.length≤size→lT (enc z) off cs=enc y→lT (l.flatMap enc) (j*size+off) cs=(l.set j y).flatMap enc
 | [],j,z,h,_,_=>by simp at h
 | u::l,0,z,h,hl,hs=>by
  simp at h;subst h;have e1:(enc u++l.flatMap enc).length=size+(l.flatMap enc).length:=by simp [he]
  simp only [List.flatMap_cons,List.set_cons_zero,Nat.zero_mul,Nat.zero_add];rw [eP _ _ _ (by rw [e1];omega),← hs,eP _ _ _ (by rw [he];exact hl)];rw [List.take_append_of_le_length (by rw [he];omega),List.drop_append_of_le_length (by rw [he];exact hl)];simp
 | u::l,j+1,z,h,hl,hs=>by
  have ih:=uQ he y off cs l j z (by simpa using h) hl hs;have hlen:(l.flatMap enc).length=l.length*size:=jE he l;have hj:j < l.length:=bA (by simpa using h);have hle:(j+1)*size≤l.length*size:=Nat.mul_le_mul_right _ hj;rw [Nat.add_mul] at hle;simp only [List.flatMap_cons,List.set_cons_succ];rw [← ih,eP _ _ _ (by simp [he,hlen,Nat.add_mul];omega),eP _ _ _ (by rw [hlen];omega)];have e2:(j+1)*size+off=size+(j*size+off):=by rw [Nat.add_mul];omega
  rw [e2];have e3:(enc u).length=size:=he u;rw [List.take_append,List.drop_append,e3];rw [List.take_of_length_le (by rw [e3];omega),List.drop_of_length_le (by rw [e3];omega)];simp only [show size+(j*size+off) - size=j*size+off by omega,show size+(j*size+off)+cs.length - size=j*size+off+cs.length by omega];simp
theorem uR {α:Type} {enc:α→List Value} (z:List Value) (y:α) (h:enc y=z):∀ n:Nat,eD z n=(List.replicate n y).flatMap enc
 | 0=>rfl
 | n+1=>by simp only [eD,List.replicate_succ,List.flatMap_cons,h];rw [uR z y h n]
section
variable {P:Program} {r:Option Nat} {n:aP} {p:List PanicEntry→aP} {ops:Array Oper} {rest:List Oper} {d:Nat} {ty:TypeId} {pos:String} {af:Array Edge} {x:Fr} {Hs:List Hp} {σ:aN} {L:bX}
theorem PB (tg:Nat) {α:Type} {enc:α→List Value} (y:α) {l:List α} {z0:α} {t t0:TypeId} {u z:Operand} {v:Value} {cs:List Value} {q:Addr} {cap size j off s:Nat} (hs:∀ w,(Go.sizeOf t).run P w=.ok s w) (hu:ev L u=some (.pointer (some (q.add (j*size+off))))) (hz:ev L z=some v) (hσ:cE σ tg=some (.list (some q) cap t0 size enc l)) (he:∀ x,(enc x).length=size) (hj:l[j]?=some z0) (hv:bT v=cs) (hcl:cs.length=s) (h1:cs.all (·.oneCell')=true) (hfit:Nat.ble (off+s) size=true) (hsp:lT (enc z0) off cs=enc y)
  (h:OG P r ops n p x Hs (dY σ tg (.list (some q) cap t0 size enc (l.set j y))) L rest):OG P r ops n p x Hs σ L (⟨none,.store t u z,ty,pos,af,none⟩::rest):=fun c w hS hA=>by
 have hfit':off+s≤size:=by simpa using hfit
 have hlt:=bA hj;have hle:(j+1)*size≤l.length*size:=Nat.mul_le_mul_right _ hlt;rw [Nat.add_mul] at hle;have hsf:=uQ he y off cs l j z0 hj (by omega) hsp;refine BQ tg hA hS hu hz hs hσ hv hcl h1 (by rw [jE he];omega) fun w' hS c hA=>?_;rw [hsf] at hS;refine h c w' ?_ hA;have e:(l.set j y).length=l.length:=by simp
 unfold aR.list;rw [e];exact hS
theorem mkL (tg:Nat) {α:Type} (enc:α→List Value) (y0:α) {t el:TypeId} {u v:Operand} {z:List Value} {size bytes nn:Nat} {m m':Int} {kl kc:IntKind} (he:cP P t el z size bytes) (hd:Nat.blt d x.k=true) (hu:ev L u=some (.int kl m)) (hv:ev L v=some (.int kc m')) (hy:enc y0=z) (hby:Nat.ble bytes 131072=true) (hm:m=(nn:Int)) (hm':m'=(nn:Int)) (h0:nn≤1073741824)
  (h:∀ b,OG P r ops n p x Hs ((tg,.list (some ⟨b,0,none⟩) nn el size enc (List.replicate nn y0))::σ) ((d,.slice (some ⟨b,0,none⟩) (List.replicate nn y0).length nn)::L) rest):OG P r ops n p x Hs σ L (⟨some d,.makeSlice t u v,ty,pos,af,none⟩::rest):=fun c w hS hA=>by
 refine KF tg hA hd hS he hu hv hm hm' h0 hby fun b w' hS _ c hA=>?_;have e1:(List.replicate nn y0).length=nn:=by simp
 have:=h b c w';unfold aR.list at this;rw [e1,← uR z y0 hy] at this;exact this hS hA
end
end Pk
namespace Pk
open Go
theorem BZ {x:Int} (h : -9223372036854775808≤x∧x≤9223372036854775807):IntKind.i64.wrap x=x:=i64 h.1 h.2
theorem PC {x:Int} (h:0≤x∧x≤255):IntKind.u8.wrap x=x:=by
 simp only [IntKind.wrap,IntKind.bits,IntKind.signed,Bool.false_and];simp;omega
theorem fF {α:Type} (l m:List α):(l++m).length=l.length+m.length:=List.length_append
theorem CA {α:Type} (l:List α) (i:Nat) (x:α):(l.set i x).length=l.length:=List.length_set
theorem iV {α:Type} {l:List α} {j:Nat} {x:α} (h:l[j]?=some x):0 < l.length:=Nat.lt_of_le_of_lt (Nat.zero_le _) (bA h)
section
variable {P:Program} {r:Option Nat} {n:aP} {p:List PanicEntry→aP} {ops:Array Oper} {rest:List Oper} {d:Nat} {ty:TypeId} {pos:String} {af:Array Edge} {x:Fr} {Hs:List Hp} {σ:aN} {L:bX}
theorem PD (tg:Nat) {α:Type} (enc:α→List Value) (l:List α) {t el:TypeId} {xs:List (Nat×Operand)} {vs:List (Nat×Value)} {z cs:List Value} {size bytes ln:Nat} (he:cP P t el z size bytes) (hd:Nat.blt d x.k=true) (h0:Nat.ble (ln*size) 16777216=true) (hx:fC L xs=some vs) (hf:gK (fun i=>some (i*size,size)) (eD z ln) vs=some cs) (hcs:cs=l.flatMap enc) (hln:ln=l.length) (h:∀ b,OG P r ops n p x Hs ((tg,.list (some ⟨b,0,none⟩) ln el size enc l)::σ) ((d,.slice (some ⟨b,0,none⟩) l.length ln)::L) rest):OG P r ops n p x Hs σ L (⟨some d,.buildSlice t ln xs.toArray,ty,pos,af,none⟩::rest):=by
 subst hcs;subst hln;exact bSO tg he hd h0 hx hf h
theorem GT (tg:Nat) {α:Type} {R:Hp→List Value→α→Prop} {l m:List α} {css:List (List Value)} {H:Hp} {Hs':List Hp} {t el:TypeId} {s y:Operand} {z:List Value} {size bytes:Nat} {ad sad:Option Addr} {cap nn mm c:Nat} (he:cP P t el z size bytes) (hd:Nat.blt d x.k=true) (hs:ev L s=some (.slice ad nn cap)) (hσ:cE σ tg=some (.rows ad cap el size css l)) (hn:nn=l.length) (hx:ev L y=some (.slice sad mm c)) (hmm:mm=m.length) (hm:Sl R size H sad c m) (hR:Rows R size H css l) (ho:oW R) (hby:Nat.ble bytes 131072=true) (h1:l.length+m.length≤1073741824)
  (h:∀ ad' cap' css',Rows R size H css' (l++m)→OG P r ops n p x (H::Hs') (dY σ tg (.rows ad' cap' el size css' (l++m))) ((d,.slice ad' (l++m).length cap')::L) rest):OG P r ops n p x (H::Hs') σ L (⟨some d,.call ⟨.builtin .append,#[s,y],#[t,t]⟩,ty,pos,af,none⟩::rest):=fun c' w hS hA=>by
 rcases Nat.eq_zero_or_pos m.length with h0 | hpos
 ·have hm0:m=[]:=List.eq_nil_of_length_eq_zero h0;subst hm0;subst hmm;subst hn;obtain ⟨i,v,hi,_,_,hsz,_⟩:=he.info;have hrow:=hS.get hσ;have hrun:(Builtin.append_ #[t,t] ty #[.slice ad l.length cap,.slice sad 0 c]).run P w=.ok (.slice ad l.length cap) w:=by
   rcases hrow.2 with ⟨hv,hz⟩ | ⟨g,cap',cur,hv,_,_,hnc,_⟩
   ·rw [hv];cases sad <;> simp [Builtin.append_,run_underlying he.desc,Go.sizeOf,typeInfo,hi,Builtin.lenOf,Builtin.firstCells,loadCells,loadCellsFrom]
   simp only [Value.slice.injEq] at hv;obtain ⟨rfl,_,rfl⟩:=hv;cases sad <;> simp [Builtin.append_,run_underlying he.desc,Go.sizeOf,typeInfo,hi,Builtin.lenOf,Builtin.firstCells,hnc,storeCells,loadCells,loadCellsFrom]
  refine cO rfl (fun _ h=>by cases h) (w':=w) (v:=.slice ad l.length cap) (by simp [execOp,resolve,invoke,builtin,hA.eval hs,hA.eval hx,hrun]) ?_;have:=h ad cap css (by simpa using hR);simp only [List.append_nil] at this;exact this _ w (by simpa using hS.as tg hσ rfl) (hA.put hd _)
 exact KQ tg hA hd hS he hs hσ hn hx hmm hm hR ho hpos h1 hby fun ad' cap' css' w' hR hS c hA=>h ad' cap' css' hR c w' hS hA
end
end Pk
namespace Pk
open Go
section
variable {P:Program} {r:Option Nat} {n rt:aP} {e:List (Nat×aP)} {p:List PanicEntry→aP} {ops:Array Oper} {d k:Nat} {D:List Deferred} {M:Prop} {w0:World} {H0 K K':Hp} {Hs:List Hp} {σ:aN} {L:bX}
theorem aC {v:Value}:TG ⟨D,k,M,w0,H0⟩ (K::Hs) σ ((d,v)::L) (O P r ops (fun a' w'=>∃ (_:Unit) (K':Hp),K.le K'∧St M w0 H0 (K'::Hs) σ w'∧a'.tmps[d]?=some v∧a'.defers=D∧True) p []):=fun _ _ hS hA=>Fin1.mk hS hA
theorem uS {α:Type} {f:α→Value} {G:α→Hp→Prop} (x:α) (hG:G x K):TG ⟨D,k,M,w0,H0⟩ (K::Hs) σ ((d,f x)::L) (O P r ops (fun a' w'=>∃ (x:α) (K':Hp),K.le K'∧St M w0 H0 (K'::Hs) σ w'∧a'.tmps[d]?=some (f x)∧a'.defers=D∧G x K') p []):=fun _ _ hS hA=>FinF.mk x hS hA hG
theorem eM {α:Type} {f:α→Value} {G:α→Hp→Prop} (x:α) (hm:kE G) (hG:G x K'):TG ⟨D,k,M,w0,H0⟩ (K'::K::Hs) σ ((d,f x)::L) (O P r ops (fun a' w'=>∃ (x:α) (K':Hp),K.le K'∧St M w0 H0 (K'::Hs) σ w'∧a'.tmps[d]?=some (f x)∧a'.defers=D∧G x K') p []):=fun _ _ hS hA=>FinU.mk x hm hS hA hG
theorem uT {α:Type} {f:α→Value} {G:α→Hp→Prop} {σ1:α→aN} (x:α) (hG:G x K):TG ⟨D,k,M,w0,H0⟩ (K::Hs) (σ1 x) ((d,f x)::L) (O P r ops (fun a' w'=>∃ (x:α) (K':Hp),K.le K'∧St M w0 H0 (K'::Hs) (σ1 x) w'∧a'.tmps[d]?=some (f x)∧a'.defers=D∧G x K') p []):=fun _ _ hS hA=>FinT.mk x hS hA hG
theorem TG.pa {a:Act} {w:World} {N:aP} (hS:St M w0 H0 Hs σ w) (hA:aV D k a L) (h:TG ⟨D,k,M,w0,H0⟩ Hs σ L N):N a w:=h a w hS hA
theorem KS {x:Fr} {A B:Hp} {N:aP} (h:TG x (A::Hs) σ L N):TG x (A::B::Hs) σ L N:=fun a w hS hA=>h a w hS.skip1 hA
theorem gQ {id:Nat} {all:List Oper} (m:Nat) (hmix:P.follows .mixedOrders=true) (hchk:tB all m k (L.map (·.1))=true) (hm:Nat.ble m all.length=true)
  (h:DF P r all.toArray (eY all []) D k M w0 H0 Hs σ L p (fun E F=>∀ K,eW F K→TG ⟨D,k,M,w0,H0⟩ (K::Hs) σ (E++L) (O P r all.toArray n p (all.drop m))) 0 (all.take m) [] []) :
  TG ⟨D,k,M,w0,H0⟩ Hs σ L (W P r (.region id all.toArray true) n rt e p):=fun a w hS hA=>by
 refine KI m hmix hS hA hchk hm ?_
 have:(fun E F=>∀ K,eW F K→TG ⟨D,k,M,w0,H0⟩ (K::Hs) σ (E++L) (O P r all.toArray n p (all.drop m)))=(fun E F=>∀ a w K,St M w0 H0 (K::Hs) σ w→aV D k a (E++L)→eW F K→O P r all.toArray n p (all.drop m) a w):=by
  funext E F;apply propext;constructor
  ·intro h a w K hS hA hF;exact h K hF a w hS hA
  intro h K hF a w hS hA;exact h a w K hS hA hF
 rw [← this];exact h
end
end Pk
namespace Pk
open Go
def lH (s:aF):Value:=.string (bs s)
def UP (n:Int):Value:=.int .i64 n
class rE {κ:Type} [DecidableEq κ] (ke:κ→Value) (d:outParam TypeDesc):Prop where
 is:∀ k,MapKept.IsKey d (ke k)
 same:∀ a b,Instr.sameNow d (ke a) (ke b)=some (decide (a=b))
instance:rE lH .string where
 is _:=trivial
 same a b:=by
  have:(bs a==bs b)=decide (a=b):=by rw [beq_toListBytes,nM,nM];by_cases h:a=b <;> simp [h]
  simp [lH,Instr.sameNow,this]
instance:rE UP (.int .i64) where
 is _:=by simp [MapKept.IsKey,UP]
 same a b:=by simp [UP,Instr.sameNow,Bool.beq_eq_decide_eq]
section
variable {κ α:Type} [DecidableEq κ]
def dQ (ke:κ→Value) (enc:α→Value):List (κ×α)→Nat→List MapEntry
 | [],_=>[]
 | (k,x)::l,i=>{ key:=ke k,val:=enc x,born:=i }::dQ ke enc l (i+1)
def dR:List (κ×α)→κ→Option α
 | [],_=>none
 | (k,x)::l,s=>if s=k then some x else dR l s
def put:List (κ×α)→κ→α→List (κ×α)
 | [],s,y=>[(s,y)]
 | (k,x)::l,s,y=>if s=k then (k,y)::l else (k,x)::put l s y
omit [DecidableEq κ] in
theorem kJ (ke:κ→Value) (enc:α→Value):∀ (m:List (κ×α)) (i:Nat),(dQ ke enc m i).length=m.length
 | [],_=>rfl
 | _::m,i=>by simp [dQ,kJ ke enc m (i+1)]
omit [DecidableEq κ] in
theorem nO {ke:κ→Value} {enc:α→Value} (s:κ) (y:α):∀ (m:List (κ×α)) (i:Nat),dQ ke enc (m++[(s,y)]) i=dQ ke enc m i++[{ key:=ke s,val:=enc y,born:=i+m.length }]
 | [],i=>by simp [dQ]
 | (k,x)::m,i=>by
  have:=nO (ke:=ke) (enc:=enc) s y m (i+1);simp only [List.cons_append,dQ,this,List.length_cons];rw [show i+1+m.length=i+(m.length+1) by omega]
variable {ke:κ→Value} {d:TypeDesc} [rE ke d] {enc:α→Value}
theorem nP (s:κ):∀ (m:List (κ×α)) (i j:Nat),(dR m s=none∧Instr.findNow d (ke s) (dQ ke enc m i) j=some none∧∀ y,put m s y=m++[(s,y)]) ∨
  ∃ x h,dR m s=some x∧Instr.findNow d (ke s) (dQ ke enc m i) j=some (some (j+h,enc x))∧h < m.length∧(dQ ke enc m i)[h]?=some { key:=ke s,val:=enc x,born:=i+h } ∧
   ∀ y,dQ ke enc (put m s y) i=(dQ ke enc m i).set h { key:=ke s,val:=enc y,born:=i+h }∧(put m s y).length=m.length
 | [],i,j=>.inl ⟨rfl,rfl,fun _=>rfl⟩
 | (k,x)::m,i,j=>by
  simp only [dQ,Instr.findNow,rE.same,dR,put];by_cases h:s=k
  ·subst h;refine .inr ⟨x,0,by simp,by simp,by simp,by simp,fun y=>by simp [dQ]⟩
  rcases nP s m (i+1) (j+1) with ⟨h1,h2,h3⟩ | ⟨x',g,h1,h2,h3,h4,h5⟩
  ·refine .inl ⟨by simp [h,h1],by simp [h,h2],fun y=>by simp [h,h3 y]⟩
  refine .inr ⟨x',g+1,by simp [h,h1],by simp [h,h2];omega,by simp;omega,by simp [h4];omega,fun y=>?_⟩;obtain ⟨h6,h7⟩:=h5 y;simp only [h,if_false,dQ,h6,List.length_cons,h7,and_true,List.set_cons_succ];rw [show i+1+g=i+(g+1) by omega]
end
def Mp {κ α:Type} (ke:κ→Value) (enc:α→Value) (H:Hp) (v:Value) (m:List (κ×α)):Prop :=
 (∃ b,v=.map (some b)∧H b=some (.map (dQ ke enc m 0).toArray m.length))∨(v=.map none∧m=[])
theorem Mp.nil {κ α:Type} {ke:κ→Value} {enc:α→Value} {H:Hp}:Mp ke enc H (.map none) []:=.inr ⟨rfl,rfl⟩
theorem Mp.mono {κ α:Type} {ke:κ→Value} {enc:α→Value} {H K:Hp} {v:Value} {m:List (κ×α)} (h:Mp ke enc H v m) (hk:H.le K):Mp ke enc K v m:=by
 rcases h with ⟨b,h1,h2⟩ | h
 ·exact .inl ⟨b,h1,hk _ _ h2⟩
 exact .inr h
abbrev aR.map' {κ α:Type} (ke:κ→Value) (enc:α→Value) (b:Nat) (m:List (κ×α)):aR:=.blk b (.map (dQ ke enc m 0).toArray m.length)
section
variable {P:Program} {r:Option Nat} {n:aP} {p:List PanicEntry→aP} {ops:Array Oper} {rest:List Oper} {d:Nat} {ty:TypeId} {pos:String} {af:Array Edge} {x:Fr} {Hs:List Hp} {σ:aN} {L:bX} {N:aP}
variable {κ α:Type} {ke:κ→Value} {enc:α→Value}
def Ms (x:Fr) (Hs:List Hp) (σ:aN) (ke:κ→Value) (enc:α→Value) (v:Value) (m:List (κ×α)):Prop:=∀ w,St x.M x.w0 x.H0 Hs σ w→Mp ke enc (hp w) v m
theorem mS (i:Nat) {K:Hp} {v:Value} {m:List (κ×α)} (hi:Hs[i]?=some K) (h:Mp ke enc K v m):Ms x Hs σ ke enc v m:=fun _ hS=>h.mono (hS.hp i hi)
theorem mO (t:Nat) {b:Nat} {m:List (κ×α)} (h:cE σ t=some (aR.map' ke enc b m)):Ms x Hs σ ke enc (.map (some b)) m:=fun _ hS=>.inl ⟨b,rfl,hS.get h⟩
theorem St.mapOut {M:Prop} {w0 w:World} {H0:Hp} (hS:St M w0 H0 Hs σ w) (t:Nat) {b:Nat} {m:List (κ×α)} (hσ:cE σ t=some (aR.map' ke enc b m)):Mp ke enc (Pk.grow H0 w0 w) (.map (some b)) m:=by
 refine .inl ⟨b,rfl,?_⟩;have h1:=(hS.own t _ (eO hσ)).2 b rfl;unfold Pk.grow;rw [if_neg (by omega)];exact hS.get hσ
theorem mkM (tg:Nat) (ke:κ→Value) (enc:α→Value) {t:TypeId} (hd:Nat.blt d x.k=true) (h:∀ b,OG P r ops n p x Hs ((tg,aR.map' ke enc b [])::σ) ((d,.map (some b))::L) rest):OG P r ops n p x Hs σ L (⟨some d,.makeMap t none,ty,pos,af,none⟩::rest):=fun c w hS hA=>by
 refine cO rfl (fun _ h=>by cases h) (w':=w.alloc (.map #[] 0)) (v:=.map (some w.heap.size)) (by simp [execOp,show (Instr.makeMap t none).run P w=.ok (.map (some w.heap.size)) (w.alloc (.map #[] 0)) from rfl]) ?_;refine h _ _ _ (hS.add (iT.alloc _ w _) tg (x:=aR.map' ke enc w.heap.size []) (eT w _) ?_) (hA.put hd _);intro b hb;simp [aR.foot] at hb;omega
variable [DecidableEq κ] {kd:TypeDesc} [rE ke kd]
theorem xA {w:World} {t kt et:TypeId} {v z:Value} {m:List (κ×α)} (s:κ) (c:Bool) (hu:P.underlying t=some (.map kt et)) (hk:P.underlying kt=some kd) (hz:∀ w,(zeroValue et).run P w=.ok z w) (hm:Mp ke enc (hp w) v m) :
  (Instr.lookup t v (ke s) c).run P w=.ok (if c then .tuple [((dR m s).map enc).getD z,.bool (dR m s).isSome].toArray else ((dR m s).map enc).getD z) w:=by
 have hck:∀ e,(Instr.checkKey e 10000 kt (ke s)).run P w=.ok () w:=fun e=>MapKept.run_checkKey hk (rE.is s) e 9999;rcases hm with ⟨b,rfl,hb⟩ | ⟨rfl,rfl⟩
 ·have hobj:(getObj b).run P w=.ok (.map (dQ ke enc m 0).toArray m.length) w:=MapKept.run_getObj_map hb;rcases nP (enc:=enc) (ke:=ke) s m 0 0 with ⟨h1,h2,_⟩ | ⟨y,g,h1,h2,_⟩
  ·cases c <;> simp [Instr.lookup,run_underlying hu,hobj,hck,MapKept.run_findKey hk h2,hz,h1]
  cases c <;> simp [Instr.lookup,run_underlying hu,hobj,hck,MapKept.run_findKey hk h2,h1]
 have h2:Instr.findNow kd (ke s) [] 0=some none:=rfl;cases c <;> simp [Instr.lookup,run_underlying hu,hck,MapKept.run_findKey hk h2,hz,dR]
theorem TF (s:κ) {z0:α} {t kt et:TypeId} {y i:Operand} {v z:Value} {m:List (κ×α)} (hu:P.underlying t=some (.map kt et)) (hk:P.underlying kt=some kd) (hz:∀ w,(zeroValue et).run P w=.ok z w) (hd:Nat.blt d x.k=true) (hy:ev L y=some v) (hi:ev L i=some (ke s)) (hz0:enc z0=z) (hm:Ms x Hs σ ke enc v m)
  (h:OG P r ops n p x Hs σ ((d,.tuple [enc ((dR m s).getD z0),.bool (dR m s).isSome].toArray)::L) rest):OG P r ops n p x Hs σ L (⟨some d,.lookup t y i true,ty,pos,af,none⟩::rest):=fun c w hS hA=>by
 subst hz0;have e1:((dR m s).map enc).getD (enc z0)=enc ((dR m s).getD z0):=by cases dR m s <;> rfl
 have:=xA (P:=P) (w:=w) s true hu hk hz (hm w hS);rw [e1] at this;exact cO rfl (fun _ h=>by cases h) (by simp [execOp,hA.eval hy,hA.eval hi,this]) (h _ w hS (hA.put hd _))
theorem UQ (tg:Nat) (s:κ) (y:α) {t kt et:TypeId} {u i v:Operand} {b:Nat} {m:List (κ×α)} (hu:P.underlying t=some (.map kt et)) (hk:P.underlying kt=some kd) (hx:ev L u=some (.map (some b))) (hi:ev L i=some (ke s)) (hv:ev L v=some (enc y)) (hσ:cE σ tg=some (aR.map' ke enc b m))
  (h:OG P r ops n p x Hs (dY σ tg (aR.map' ke enc b (put m s y))) L rest):OG P r ops n p x Hs σ L (⟨none,.mapUpdate t u i v,ty,pos,af,none⟩::rest):=fun c w hS hA=>by
 have hb:w.heap[b]?=some (.map (dQ ke enc m 0).toArray m.length):=hS.get hσ;have hck:∀ e,(Instr.checkKey e 10000 kt (ke s)).run P w=.ok () w:=fun e=>MapKept.run_checkKey hk (rE.is s) e 9999;have hset:=fun o=>MapKept.run_setObj_map (P:=P) o hb;have hlt:b < w.heap.size:=(Array.getElem?_eq_some_iff.1 hb).1
 have hgr:∀ o,rL w { w with heap:=w.heap.setIfInBounds b o } (some b):=fun o=>⟨⟨rfl,rfl,rfl,by simp,fun j _ hne=>by
  show (w.heap.setIfInBounds b _)[j]?=_
  exact Array.getElem?_setIfInBounds_ne (fun e=>hne (by rw [e]))⟩,Nat.le_refl _⟩
 rcases nP (enc:=enc) (ke:=ke) s m 0 0 with ⟨_,h2,h3⟩ | ⟨z,g,_,h2,h3,h4,h5⟩
 ·refine nK rfl (fun _ h=>by cases h) (w':={ w with heap:=w.heap.setIfInBounds b (.map ((dQ ke enc m 0).toArray.push { key:=ke s,val:=enc y,born:=m.length }) (m.length+1)) }) ?_ ?_
  ·simp [execOp,Instr.mapUpdate,hA.eval hx,hA.eval hi,hA.eval hv,run_underlying hu,MapKept.run_getObj_map hb,hck,MapKept.run_findKey hk h2,hset]
  refine h _ _ (hS.step hσ (hgr _) ?_ (fun b' hb'=>.inl hb')) hA;show (w.heap.setIfInBounds b _)[b]?=_;have e:=nO (ke:=ke) (enc:=enc) s y m 0;rw [h3 y];simp only [Array.getElem?_setIfInBounds_self_of_lt hlt,e];simp
 obtain ⟨h6,h7⟩:=h5 y;refine nK rfl (fun _ h=>by cases h) (w':={ w with heap:=w.heap.setIfInBounds b (.map ((dQ ke enc m 0).set g { key:=ke s,val:=enc y,born:=g }).toArray m.length) }) ?_ ?_
 ·have hj:(dQ ke enc m 0).toArray[g]?=some { key:=ke s,val:=enc z,born:=0+g }:=by simpa using h4
  have hlen:=kJ ke enc m 0;have hmodL:(dQ ke enc m 0).modify g (fun e=>{ key:=ke s,val:=enc y,born:=e.born })=(dQ ke enc m 0).set g { key:=ke s,val:=enc y,born:=g }:=by
   apply List.ext_getElem?;intro i;rw [List.getElem?_modify];by_cases e:g=i
   ·subst e;rw [h4];simp [hlen,h3]
   simp [e,List.getElem?_set_ne e]
  have hj0:(dQ ke enc m 0)[g]?=some { key:=ke s,val:=enc z,born:=0+g }:=h4;simp [execOp,Instr.mapUpdate,hA.eval hx,hA.eval hi,hA.eval hv,run_underlying hu,MapKept.run_getObj_map hb,hck,MapKept.run_findKey hk h2,hj0,MapKept.run_keyThatStays (rE.is (ke:=ke) s),hset];rw [hmodL]
 refine h _ _ (hS.step hσ (hgr _) ?_ (fun b' hb'=>.inl hb')) hA;show (w.heap.setIfInBounds b _)[b]?=_;simp only [Array.getElem?_setIfInBounds_self_of_lt hlt,h6,h7,Nat.zero_add]
end
end Pk
namespace Pk
open Go
theorem Sl.isNil {α:Type} {R:Hp→List Value→α→Prop} {size:Nat} {H:Hp} {ad:Option Addr} {cap:Nat} {l:List α} (h:Sl R size H ad cap l) (hn:ad.isNone=true):[]=l:=by
 cases l with
 | nil=>rfl
 | cons x l =>
  obtain ⟨p,cs,h1,_⟩:=h.2 0 x rfl;subst h1;cases hn
def Vi (k:IntKind):Hp→Value→Int→Prop:=fun _ v x=>v=.int k x
def Vb:Hp→Value→Bool→Prop:=fun _ v x=>v=.bool x
def Vs:Hp→Value→aF→Prop:=fun _ v x=>v=.string (bs x)
def Va {α:Type} (enc:α→List Value):Hp→Value→α→Prop:=fun _ v x=>v=.agg (enc x).toArray
def Vl {α:Type} (R:Hp→List Value→α→Prop) (size:Nat):Hp→Value→List α→Prop:=fun H v l=>∃ ad cap,v=.slice ad l.length cap∧Sl R size H ad cap l
def Vr {α:Type} (R:Hp→List Value→α→Prop):Hp→Value→α→Prop:=fun H v x=>∃ cs,v=.agg cs.toArray∧R H cs x
def fZ {α ρ:Type} (V:Hp→Value→α→Prop) (E:ρ→Value) (p:α→Option ρ):Hp→List Value→Value→Prop:=fun H vs v=>∃ u x r,vs=[u]∧V H u x∧p x=some r∧v=E r
def JB {α β ρ:Type} (V:Hp→Value→α→Prop) (V':Hp→Value→β→Prop) (E:ρ→Value) (p:α→β→Option ρ):Hp→List Value→Value→Prop:=fun H vs v=>∃ u u' x x' r,vs=[u,u']∧V H u x∧V' H u' x'∧p x x'=some r∧v=E r
section
variable {P:Program} {r:Option Nat} {n:aP} {p:List PanicEntry→aP} {ops:Array Oper} {rest:List Oper} {d:Nat} {ty:TypeId} {pos:String} {af:Array Edge} {x:Fr} {Hs:List Hp} {σ:aN} {L:bX}
end
end Pk
namespace Pk
open Go
section
variable {F:Fence} {nn:Nat} {P:Program} {Q0:Exit→Act→World→Prop} {a:Act} {w:World}
theorem fG {b:Frame} {k:List Item} {cs:List Frame} {c:Code}:step P (lone (b.atR a (.code (.scope c)::k)) cs w)=.next (lone (b.atR a (.code c::.inScope c::k)) cs w) :=
 step_lone_go (by simp [stepG,stepG.exec,Frame.atR])
theorem rF {b:Frame} {k:List Item} {cs:List Frame} {c:Code}:step P (lone (b.atR a (.inScope c::k)) cs w)=.next (lone (b.atR a k) cs w) :=
 step_lone_go (by simp [stepG,stepG.exec,Frame.atR])
theorem lB {c:Code} (h:c.wpIn F nn P (fun e a w=>match e with | .goto _=>False | e=>Q0 e a w) a w):(Code.scope c).wpIn F nn P Q0 a w:=by
 intro b k cs hro hb hr;have h0:(lone (b.atR a (.code (.scope c)::k)) cs w).fenced P F:=fenced_calm hb hr rfl;obtain ⟨e,a₁,w₁,hq,harr⟩:=h b (.inScope c::k) cs hro hb hr
 cases e with
 | normal=>exact ⟨.normal,a₁,w₁,hq,.head h0 fG (StepsIn.trans harr (.one (fenced_calm hb hr rfl) rF))⟩
 | exit id =>
  have hx:exitTo id (.inScope c::k)=exitTo id k:=by simp [exitTo]
  exact ⟨.exit id,a₁,w₁,hq,fun k' hk=>.head h0 fG (harr.1 k' (by rw [hx];exact hk)),
   fun hr' hk=>let ⟨k₁,h1,h2⟩:=harr.2 hr' (by rw [hx];exact hk);⟨k₁,h1,.head h0 fG h2⟩⟩
 | goto l=>exact hq.elim
 | ret=>exact ⟨_,a₁,w₁,hq,.of_steps (.one h0 fG) harr⟩
 | panic ch=>exact ⟨_,a₁,w₁,hq,.of_steps (.one h0 fG) harr⟩
 | outgrown=>exact ⟨_,a₁,w₁,hq,.of_steps (.one h0 fG) harr⟩
end
section
variable {P:Program} {r:Option Nat} {n rt:aP} {e:List (Nat×aP)} {p:List PanicEntry→aP} {x:Fr} {Hs:List Hp} {σ:aN} {L:bX}
theorem sc {c:Code} (h:TG x Hs σ L (W P r c n rt e p)):TG x Hs σ L (W P r (.scope c) n rt e p):=fun a w hS hA=>by
 refine lB (wpIn_mono (h a w hS hA) ?_);intro z a w hz;cases z <;> exact hz
end
open Classical in
noncomputable def nQ {β:Type} (F:Nat→Option β):Option β:=(F 100000).or (if h:∃ n r,F n=some r then F (Classical.choose h) else none)
theorem mW {β:Type} {F:Nat→Option β} {r:β} (h:nQ F=some r):∃ n,F n=some r:=by
 unfold nQ at h
 cases hF:F 100000 with
 | some r'=>rw [hF] at h;cases h;exact ⟨_,hF⟩
 | none =>
  rw [hF,Option.none_or] at h;split at h
  ·exact ⟨_,h⟩
  cases h
theorem GU {β:Type} {F:Nat→Option β} {r:β} (n:Nat) (hn:F n=some r) (hu:∀ m r',F m=some r'→r'=r):nQ F=some r:=by
 have h:∃ n r,F n=some r:=⟨n,r,hn⟩;unfold nQ
 cases hF:F 100000 with
 | some r'=>rw [hu _ _ hF];rfl
 | none =>
  rw [Option.none_or,dif_pos h];obtain ⟨r',hr⟩:=Classical.choose_spec h;rw [hr,hu _ _ hr]
end Pk
namespace Pk
open Go
def HP (q:aN→Prop) (mi:Nat):List (Nat×aN)→Prop
 | []=>True
 | (t,τ)::l=>(q τ∨mi.testBit t=true)∧HP q mi l
theorem HP.at {q:aN→Prop} {mi:Nat}:∀ {l:List (Nat×aN)} {t:Nat} {τ:aN},HP q mi l→(t,τ)∈l→q τ∨mi.testBit t=true
 | (_,_)::_,_,_,h,hm=>by
  rcases List.mem_cons.1 hm with e | hm
  ·cases e;exact h.1
  exact h.2.at hm
theorem HP.all {q:aN→Prop} {mi:Nat} (h:∀ τ,q τ):∀ {l:List (Nat×aN)},HP q mi l
 | []=>trivial
 | (_,τ)::_=>⟨.inl (h τ),HP.all h⟩
def FO (us ms:List Nat) (i:Nat):Bool:=us.all fun u=>!Nat.blt i u||(ms.getD u 0).testBit i
theorem FO.at {us ms:List Nat} {i u:Nat} (h:FO us ms i=true) (hu:us.contains u=true) (hlt:i < u):(ms.getD u 0).testBit i=true:=by
 have:=List.all_eq_true.1 h u (by simpa using hu);have hb:Nat.blt i u=true:=by rw [Nat.blt_eq];exact hlt
 simpa [hb] using this
def fO (us ms:List Nat):Bool:=us.all fun t=>us.all fun u=>!Nat.blt t u||(ms.getD u 0).testBit t
theorem fO.at {us ms:List Nat} {t u:Nat} (h:fO us ms=true) (ht:us.contains t=true) (hu:us.contains u=true) (hlt:t < u):(ms.getD u 0).testBit t=true:=by
 have:=List.all_eq_true.1 (List.all_eq_true.1 h t (by simpa using ht)) u (by simpa using hu);have hb:Nat.blt t u=true:=by rw [Nat.blt_eq];exact hlt
 simpa [hb] using this
def UR:Value→Nat
 | .pointer (some a)=>a.block
 | _=>0
def slA:Value→Option Addr
 | .slice a _ _=>a
 | _=>none
def slC:Value→Nat
 | .slice _ _ c=>c
 | _=>0
def PE (u d:Nat) (g:Nat→aN) (S:Nat→Act→aN) (i:Nat) (b:Act):aN:=match Nat.beq i u with
 | true=>g (UR ((b.tmps[d]?).getD undef))
 | false=>S i b
def TH (u d:Nat) (g:Option Addr→Nat→aN) (S:Nat→Act→aN) (i:Nat) (b:Act):aN:=match Nat.beq i u with
 | true=>g (slA ((b.tmps[d]?).getD undef)) (slC ((b.tmps[d]?).getD undef))
 | false=>S i b
theorem PF {u d:Nat} {g:Nat→aN} {S:Nat→Act→aN} {b:Act} {q:Addr} (h:b.tmps[d]?=some (.pointer (some q))):g q.block=PE u d g S u b:=by
 unfold PE;rw [Nat.beq_refl,h];rfl
theorem US {u d:Nat} {g:Option Addr→Nat→aN} {S:Nat→Act→aN} {b:Act} {ad:Option Addr} {n c:Nat} (h:b.tmps[d]?=some (.slice ad n c)):g ad c=TH u d g S u b:=by
 unfold TH;rw [Nat.beq_refl,h];rfl
theorem PG {u d i:Nat} {g:Nat→aN} {S:Nat→Act→aN} {b:Act} {o:aN} (hn:Nat.beq i u=false) (h:o=S i b):o=PE u d g S i b:=by
 unfold PE;rw [hn];exact h
theorem PH {u d i:Nat} {g:Option Addr→Nat→aN} {S:Nat→Act→aN} {b:Act} {o:aN} (hn:Nat.beq i u=false) (h:o=S i b):o=TH u d g S i b:=by
 unfold TH;rw [hn];exact h
def OpN (P:Program) (r:Option Nat) (ops:Array Oper) (D:List Deferred) (k:Nat) (M:Prop) (w0:World) (H0:Hp) (Hs:List Hp) (L0:bX) (pp:List PanicEntry→aP) (σ:aN) (o:Oper) (E:bX) (F:bY) (σ1:aN):Prop :=
 ∀ a w K,St M w0 H0 (K::Hs) σ w→aV D k a (GG (o.looksAt ops) E++L0)→KG (o.looksAt ops) F K →
  O P r ops (fun a' w'=>∃ K',K.le K'∧St M w0 H0 (K'::Hs) σ1 w'∧a'.defers=D) pp [o] a w
theorem fP {a:Act} {d:Nat} {od:Option Nat} {u:Value} (h:∀ di,od=some di→d≠di):(a.put od u).tmps[d]?=a.tmps[d]?:=by
 cases od with
 | none=>rfl
 | some di=>exact dV (h di rfl)
theorem rG {P:Program} {r:Option Nat} {ops:Array Oper} {pp:List PanicEntry→aP} {o:Oper} {a:Act} {w:World} {N:aP} (hd:o.dst=none) (hN:∀ a' w',N a' w'→a'.defers=a.defers) (h:O P r ops N pp [o] a w) :
  O P r ops (fun a' w'=>N a' w'∧a'=a) pp [o] a w:=by
 rw [iF] at h ⊢
 split
 ·rename_i hw
  rw [if_pos hw] at h;refine kG h (fun v w h=>⟨h,by rw [hd];rfl⟩) (fun dd w h=>?_);have:=hN _ _ h;rw [hd] at this;simp [Act.put] at this
 rename_i hw
 rw [if_neg hw] at h;exact ⟨h,by rw [hd];rfl⟩
section
variable (P:Program) (r:Option Nat) (ops:Array Oper) (ms:List Nat) (D:List Deferred) (k:Nat) (M:Prop) (w0:World) (H0:Hp) (Hs:List Hp) (L0:bX) (pp:List PanicEntry→aP) (us:List Nat) (m:Nat) (T:List (Nat×Nat×Value)) (Sg:Option (Nat→Act→aN))
inductive DC (fin:aN→bX→bY→Prop):List (Nat×aN)→aN→Nat→List Oper→bX→bY→Prop
 | nil {prev:List (Nat×aN)} {σ:aN} {i:Nat} {E:bX} {F:bY} (h:fin σ E F):DC fin prev σ i [] E F
 | pre {prev:List (Nat×aN)} {σ:aN} {i:Nat} {o:Oper} {rest:List Oper} {E:bX} {F:bY} {d:Nat} {v:Value} (hv:(i,d,v)∈T) (hd:o.dst=some d) (h:DC fin prev σ (i+1) rest ((d,v)::E) F):DC fin prev σ i (o::rest) E F
 | det {prev:List (Nat×aN)} {σ:aN} {i:Nat} {o:Oper} {rest:List Oper} {E:bX} {F:bY} {d:Nat} {v:Value} (q:aN→Prop) (hne:us.contains i=false) (hq:q σ) (hb:FO us ms i=true) (hp:HP q (ms.getD i 0) prev) (hn:eB T i=true) (hd:o.dst=some d)
   (hk:∀ τ,q τ→mR P r ops D k M w0 H0 Hs τ L0 pp o d E F (fun _:Unit=>v) (fun _ _=>True)) (h:DC fin prev σ (i+1) rest ((d,v)::E) F):DC fin prev σ i (o::rest) E F
 | detA {prev:List (Nat×aN)} {σ:aN} {i:Nat} {o:Oper} {rest:List Oper} {E:bX} {F:bY} {d:Nat} {v:Value} (hne:us.contains i=false) (hn:eB T i=true) (hd:o.dst=some d)
   (hk:∀ τ,mR P r ops D k M w0 H0 Hs τ L0 pp o d E F (fun _:Unit=>v) (fun _ _=>True)) (h:DC fin prev σ (i+1) rest ((d,v)::E) F):DC fin prev σ i (o::rest) E F
 | und {prev:List (Nat×aN)} {σ:aN} {i:Nat} {o:Oper} {rest:List Oper} {E:bX} {F:bY} {d:Nat} {α:Type} (x0:α) (f:α→Value) (G:α→Hp→Prop) (q:aN→Prop) (hne:us.contains i=false) (hq:q σ) (hb:FO us ms i=true) (hp:HP q (ms.getD i 0) prev) (hm:kE G) (hu:jT ops ms i=true) (hn:eB T i=true) (hd:o.dst=some d)
   (hk:∀ τ,q τ→mR P r ops D k M w0 H0 Hs τ L0 pp o d E F f G) (h:∀ x,DC fin prev σ (i+1) rest ((d,f x)::E) ((d,G x)::F)):DC fin prev σ i (o::rest) E F
 | undD {prev:List (Nat×aN)} {σ:aN} {i:Nat} {o:Oper} {rest:List Oper} {E:bX} {F:bY} {d:Nat} (v:Value) (G:Hp→Prop) (q:aN→Prop) (hne:us.contains i=false) (hq:q σ) (hb:FO us ms i=true) (hp:HP q (ms.getD i 0) prev) (hm:∀ H K, Hp.le H K→G H→G K) (hn:eB T i=true) (hd:o.dst=some d)
   (hk:∀ τ,q τ→mR P r ops D k M w0 H0 Hs τ L0 pp o d E F (fun _:Unit=>v) (fun _=>G)) (h:DC fin prev σ (i+1) rest ((d,v)::E) ((d,G)::F)):DC fin prev σ i (o::rest) E F
 | turn {prev:List (Nat×aN)} {σ:aN} {i:Nat} {o:Oper} {rest:List Oper} {E:bX} {F:bY} {d:Nat} {α:Type} (x0:α) (f:α→Value) (G:α→Hp→Prop) (σ1:α→aN) (hi:us.contains i=true) (hm:kE G) (hu:jT ops ms i=true) (hn:eB T i=true) (hd:o.dst=some d)
   (hk:OpM P r ops D k M w0 H0 Hs L0 pp σ o d E F f G σ1) (h:∀ x,DC fin ((i,σ)::prev) (σ1 x) (i+1) rest ((d,f x)::E) ((d,G x)::F)) (hS:∀ S,Sg=some S→∀ (z:α) (b:Act),b.tmps[d]?=some (f z)→σ1 z=S i b:=by first | (intro S hS;cases hS;done) | (intro S hS z b hb;cases hS;first | rfl | ((repeat (first | refine PG rfl ?_ | refine PH rfl ?_));first | (refine Eq.trans ?_ (PF hb);rfl) | (refine Eq.trans ?_ (US hb);rfl)))):DC fin prev σ i (o::rest) E F
 | undA {prev:List (Nat×aN)} {σ:aN} {i:Nat} {o:Oper} {rest:List Oper} {E:bX} {F:bY} {d:Nat} {α:Type} (x0:α) (f:α→Value) (G:α→Hp→Prop) (hne:us.contains i=false) (hm:kE G) (hu:jT ops ms i=true) (hn:eB T i=true) (hd:o.dst=some d)
   (hk:∀ τ,mR P r ops D k M w0 H0 Hs τ L0 pp o d E F f G) (h:∀ x,DC fin prev σ (i+1) rest ((d,f x)::E) ((d,G x)::F)) (hS:Sg.isSome=true:=by rfl):DC fin prev σ i (o::rest) E F
 | undQ {prev:List (Nat×aN)} {σ:aN} {i:Nat} {o:Oper} {rest:List Oper} {E:bX} {F:bY} {d:Nat} {α:Type} (x0:α) (f:α→Value) (G:α→Hp→Prop) (q:aN→Prop) (hne:us.contains i=false) (hq:q σ) (hp:HP q (ms.getD i 0) prev) (hS:∃ S, Sg=some S∧∀ u v, us.contains u=true→q (S u v)) (hm:kE G) (hu:jT ops ms i=true) (hn:eB T i=true) (hd:o.dst=some d)
   (hk:∀ τ,q τ→mR P r ops D k M w0 H0 Hs τ L0 pp o d E F f G) (h:∀ x,DC fin prev σ (i+1) rest ((d,f x)::E) ((d,G x)::F)):DC fin prev σ i (o::rest) E F
 | turnN {prev:List (Nat×aN)} {σ:aN} {i:Nat} {o:Oper} {rest:List Oper} {E:bX} {F:bY} (σ1:aN) (hi:us.contains i=true) (hn:eB T i=true) (hd:o.dst=none)
   (hk:OpN P r ops D k M w0 H0 Hs L0 pp σ o E F σ1) (h:DC fin ((i,σ)::prev) σ1 (i+1) rest E F) (hS:∀ S,Sg=some S→∀ b:Act,aV D k b (GG (o.looksAt ops) E++L0)→σ1=S i b:=by first | (intro S hS;cases hS;done) | (intro S hS b hb;cases hS;first | rfl | ((repeat (first | refine PG rfl ?_ | refine PH rfl ?_));refine Eq.trans ?_ (PF (hb.get _ _ rfl));rfl))):DC fin prev σ i (o::rest) E F
 | detQ {prev:List (Nat×aN)} {σ:aN} {i:Nat} {o:Oper} {rest:List Oper} {E:bX} {F:bY} {d:Nat} {v:Value} (q:aN→Prop) (hne:us.contains i=false) (hq:q σ) (hp:HP q (ms.getD i 0) prev) (hS:∃ S, Sg=some S∧∀ u v, us.contains u=true→q (S u v)) (hn:eB T i=true) (hd:o.dst=some d)
   (hk:∀ τ,q τ→mR P r ops D k M w0 H0 Hs τ L0 pp o d E F (fun _:Unit=>v) (fun _ _=>True)) (h:DC fin prev σ (i+1) rest ((d,v)::E) F):DC fin prev σ i (o::rest) E F
def HC (q:aN→Prop) (mi:Nat) (ls:Array Bool) (σc:aN):Prop:=q σc∨∃ t,us.contains t=true∧ls.getD t false=false∧mi.testBit t=true
def HS (prev:List (Nat×aN)) (ls:Array Bool) (σc σ:aN):Prop:=σc=σ∨∃ p∈prev,us.contains p.1=true∧ls.getD p.1 false=false
inductive RC (fin:aN→bX→bY→Prop) (σc:aN) (ls:Array Bool) (a:Act) (K:Hp):List (Nat×aN)→aN→Nat→List Oper→bX→bY→Prop
 | nil {prev:List (Nat×aN)} {σ:aN} {i:Nat} {E:bX} {F:bY} (hσ:HS us prev ls σc σ) (h:fin σ E F):RC fin σc ls a K prev σ i [] E F
 | doneD {prev:List (Nat×aN)} {σ:aN} {i:Nat} {o:Oper} {rest:List Oper} {E:bX} {F:bY} {d:Nat} {v:Value} (hl:ls.getD i false=true) (hd:o.dst=some d) (hv:a.tmps[d]?=some v) (h:RC fin σc ls a K prev σ (i+1) rest ((d,v)::E) F):RC fin σc ls a K prev σ i (o::rest) E F
 | doneU {prev:List (Nat×aN)} {σ:aN} {i:Nat} {o:Oper} {rest:List Oper} {E:bX} {F:bY} {d:Nat} {v:Value} {φ:Hp→Prop} (hl:ls.getD i false=true) (hd:o.dst=some d) (hv:a.tmps[d]?=some v) (hm:∀ H K,Hp.le H K→φ H→φ K) (hφ:φ K) (h:RC fin σc ls a K prev σ (i+1) rest ((d,v)::E) ((d,φ)::F)):RC fin σc ls a K prev σ i (o::rest) E F
 | doneT {prev:List (Nat×aN)} {σ σ':aN} {i:Nat} {o:Oper} {rest:List Oper} {E:bX} {F:bY} {d:Nat} {v:Value} {φ:Hp→Prop} (hi:us.contains i=true) (hl:ls.getD i false=true) (hd:o.dst=some d) (hv:a.tmps[d]?=some v) (hm:∀ H K,Hp.le H K→φ H→φ K) (hφ:φ K) (h:RC fin σc ls a K ((i,σ)::prev) σ' (i+1) rest ((d,v)::E) ((d,φ)::F)):RC fin σc ls a K prev σ i (o::rest) E F
 | det {prev:List (Nat×aN)} {σ:aN} {i:Nat} {o:Oper} {rest:List Oper} {E:bX} {F:bY} {d:Nat} {v:Value} (q:aN→Prop) (hne:us.contains i=false) (hl:ls.getD i false=false) (hq:q σ) (hb:FO us ms i=true∨(∀ τ, q τ)∨∃ S, Sg=some S∧∀ u v, us.contains u=true→q (S u v)) (hp:HP q (ms.getD i 0) prev) (hqc:HC us q (ms.getD i 0) ls σc) (hd:o.dst=some d)
   (hk:∀ τ,q τ→mR P r ops D k M w0 H0 Hs τ L0 pp o d E F (fun _:Unit=>v) (fun _ _=>True)) (h:RC fin σc ls a K prev σ (i+1) rest ((d,v)::E) F):RC fin σc ls a K prev σ i (o::rest) E F
 | und {prev:List (Nat×aN)} {σ:aN} {i:Nat} {o:Oper} {rest:List Oper} {E:bX} {F:bY} {d:Nat} {α:Type} (x0:α) (f:α→Value) (G:α→Hp→Prop) (q:aN→Prop) (hne:us.contains i=false) (hl:ls.getD i false=false) (hq:q σ) (hb:FO us ms i=true∨∃ S, Sg=some S∧∀ u v, us.contains u=true→q (S u v)) (hp:HP q (ms.getD i 0) prev) (hqc:HC us q (ms.getD i 0) ls σc) (hm:kE G) (hu:jT ops ms i=true∨∀ x:α, x=x0) (hd:o.dst=some d)
   (hk:∀ τ,q τ→mR P r ops D k M w0 H0 Hs τ L0 pp o d E F f G) (h:∀ x,RC fin σc ls a K prev σ (i+1) rest ((d,f x)::E) ((d,G x)::F)):RC fin σc ls a K prev σ i (o::rest) E F
 | turn {prev:List (Nat×aN)} {σ:aN} {i:Nat} {o:Oper} {rest:List Oper} {E:bX} {F:bY} {d:Nat} {α:Type} (x0:α) (f:α→Value) (G:α→Hp→Prop) (σ1:α→aN) (hi:us.contains i=true) (hl:ls.getD i false=false) (hσ:HS us prev ls σc σ) (hm:kE G) (hu:jT ops ms i=true) (hd:o.dst=some d)
   (hk:OpM P r ops D k M w0 H0 Hs L0 pp σ o d E F f G σ1) (hS:∀ S,Sg=some S→∀ (z:α) (b:Act),b.tmps[d]?=some (f z)→σ1 z=S i b) (h:∀ x,RC fin σc ls a K ((i,σ)::prev) (σ1 x) (i+1) rest ((d,f x)::E) ((d,G x)::F)):RC fin σc ls a K prev σ i (o::rest) E F
 | doneN {prev:List (Nat×aN)} {σ σ':aN} {i:Nat} {o:Oper} {rest:List Oper} {E:bX} {F:bY} (hi:us.contains i=true) (hl:ls.getD i false=true) (hd:o.dst=none) (h:RC fin σc ls a K ((i,σ)::prev) σ' (i+1) rest E F):RC fin σc ls a K prev σ i (o::rest) E F
 | turnN {prev:List (Nat×aN)} {σ:aN} {i:Nat} {o:Oper} {rest:List Oper} {E:bX} {F:bY} (σ1:aN) (hi:us.contains i=true) (hl:ls.getD i false=false) (hσ:HS us prev ls σc σ) (hd:o.dst=none)
   (hk:OpN P r ops D k M w0 H0 Hs L0 pp σ o E F σ1) (hS:∀ S,Sg=some S→∀ b:Act,aV D k b (GG (o.looksAt ops) E++L0)→σ1=S i b) (h:RC fin σc ls a K ((i,σ)::prev) σ1 (i+1) rest E F):RC fin σc ls a K prev σ i (o::rest) E F
end
section
variable {P:Program} {r:Option Nat} {ops:Array Oper} {ms:List Nat} {D:List Deferred} {k:Nat} {M:Prop} {w0:World} {H0:Hp} {Hs:List Hp} {L0:bX} {pp:List PanicEntry→aP} {us:List Nat} {m:Nat} {T:List (Nat×Nat×Value)} {Sg:Option (Nat→Act→aN)} {fn:aN→bX→bY→Prop}
theorem DC.run {ls:Array Bool} {a:Act} {K:Hp} {σ0:aN} (hls:∀ j,ls.getD j false=!eB T j) (hT:∀ q∈T,a.tmps[q.2.1]?=some q.2.2) {prev:List (Nat×aN)} {σ:aN} {i:Nat} {l:List Oper} {E:bX} {F:bY} (h:DC P r ops ms D k M w0 H0 Hs L0 pp us T Sg fn prev σ i l E F) :
  ((prev=[]∧σ=σ0)∨∃ p∈prev,p.2=σ0∧us.contains p.1=true∧ls.getD p.1 false=false)→RC P r ops ms D k M w0 H0 Hs L0 pp us Sg fn σ0 ls a K prev σ i l E F:=by
 have hoff:∀ i,eB T i=true→ls.getD i false=false:=fun i h=>by rw [hls,h];rfl
 have key:∀ {q:aN→Prop} {mi:Nat} {prev:List (Nat×aN)} {σ:aN},((prev=[]∧σ=σ0)∨∃ p∈prev,p.2=σ0∧us.contains p.1=true∧ls.getD p.1 false=false)→q σ→HP q mi prev→HC us q mi ls σ0:=by
  intro q mi prev σ hs hq hp;rcases hs with ⟨_,rfl⟩ | ⟨⟨t,τ⟩,hm,rfl,hu,hl⟩
  ·exact .inl hq
  rcases hp.at hm with h | h
  ·exact .inl h
  exact .inr ⟨t,hu,hl,h⟩
 have hss:∀ {prev:List (Nat×aN)} {σ:aN},((prev=[]∧σ=σ0)∨∃ p∈prev,p.2=σ0∧us.contains p.1=true∧ls.getD p.1 false=false)→HS us prev ls σ0 σ:=by
  intro prev σ hs;rcases hs with ⟨_,rfl⟩ | ⟨p,hm,_,hu,hl⟩
  ·exact .inl rfl
  exact .inr ⟨p,hm,hu,hl⟩
 induction h with
 | nil h=>exact fun hs=>.nil (hss hs) h
 | @pre prev σ i o rest E F d v hv hd _ ih =>
  intro hs;refine .doneD ?_ hd (hT _ hv) (ih hs);rw [hls];simp only [eB,Bool.not_not,List.contains_eq_mem,decide_eq_true_eq];exact List.mem_map.2 ⟨_,hv,rfl⟩
 | det q hne hq hb hp hn hd hk _ ih=>exact fun hs=>.det q hne (hoff _ hn) hq (.inl hb) hp (key hs hq hp) hd hk (ih hs)
 | @detA prev σ i o rest E F d v hne hn hd hk _ ih =>
  intro hs;refine .det (fun _=>True) hne (hoff _ hn) trivial (.inr (.inl fun _=>trivial)) ?_ (.inl trivial) hd (fun τ _=>hk τ) (ih hs);exact HP.all fun _=>trivial
 | und x0 f G q hne hq hb hp hm hu hn hd hk _ ih=>exact fun hs=>.und x0 f G q hne (hoff _ hn) hq (.inl hb) hp (key hs hq hp) hm (.inl hu) hd hk (fun x=>ih x hs)
 | undD v G q hne hq hb hp hm hn hd hk _ ih=>exact fun hs=>.und () (fun _=>v) (fun _=>G) q hne (hoff _ hn) hq (.inl hb) hp (key hs hq hp) (fun _=>hm) (.inr fun _=>rfl) hd hk (fun _=>ih hs)
 | @undA prev σ i o rest E F d α x0 f G hne hm hu hn hd hk _ hS ih =>
  intro hs;obtain ⟨S,hS'⟩:=Option.isSome_iff_exists.1 hS;exact .und x0 f G (fun _=>True) hne (hoff _ hn) trivial (.inr ⟨S,hS',fun _ _ _=>trivial⟩) (HP.all fun _=>trivial) (.inl trivial) hm (.inl hu) hd (fun τ _=>hk τ) (fun x=>ih x hs)
 | undQ x0 f G q hne hq hp hS hm hu hn hd hk _ ih=>exact fun hs=>.und x0 f G q hne (hoff _ hn) hq (.inr hS) hp (key hs hq hp) hm (.inl hu) hd hk (fun x=>ih x hs)
 | detQ q hne hq hp hS hn hd hk _ ih=>exact fun hs=>.det q hne (hoff _ hn) hq (.inr (.inr hS)) hp (key hs hq hp) hd hk (ih hs)
 | turnN σ1 hi hn hd hk _ hS ih =>
  intro hs;refine .turnN σ1 hi (hoff _ hn) (hss hs) hd hk hS (ih (.inr ?_));rcases hs with ⟨_,rfl⟩ | ⟨p,hp,h⟩
  ·exact ⟨_,List.mem_cons_self,rfl,hi,hoff _ hn⟩
  exact ⟨p,List.mem_cons_of_mem _ hp,h⟩
 | turn x0 f G σ1 hi hm hu hn hd hk _ hS ih =>
  intro hs;refine .turn x0 f G σ1 hi (hoff _ hn) (hss hs) hm hu hd hk hS (fun x=>ih x (.inr ?_));rcases hs with ⟨_,rfl⟩ | ⟨p,hp,h⟩
  ·exact ⟨_,List.mem_cons_self,rfl,hi,hoff _ hn⟩
  exact ⟨p,List.mem_cons_of_mem _ hp,h⟩
theorem RC.fin {σc:aN} {ls:Array Bool} {a:Act} {K:Hp} {prev:List (Nat×aN)} {σ:aN} {i:Nat} {l:List Oper} {E:bX} {F:bY} (h:RC P r ops ms D k M w0 H0 Hs L0 pp us Sg fn σc ls a K prev σ i l E F):(∀ p∈prev,ls.getD p.1 false=true)→(∀ j,i≤j→j < i+l.length→ls.getD j false=true)→(∀ q∈E,a.tmps[q.1]?=some q.2)→eW F K →
  ∃ E' F',fn σc E' F'∧(∀ q∈E',a.tmps[q.1]?=some q.2)∧eW F' K:=by
 induction h with
 | nil hσ h =>
  intro hlu _ hE hF;rcases hσ with rfl | ⟨p,hp,_,h1⟩
  ·exact ⟨_,_,h,hE,hF⟩
  rw [hlu p hp] at h1;cases h1
 | doneD hl hd hv _ ih =>
  intro hlu hall hE hF;refine ih hlu (fun j h1 h2=>hall j (by omega) (by simp;omega)) ?_ hF;intro q hq;rcases List.mem_cons.1 hq with rfl | hq
  ·exact hv
  exact hE q hq
 | doneU hl hd hv hm hφ _ ih =>
  intro hlu hall hE hF;refine ih hlu (fun j h1 h2=>hall j (by omega) (by simp;omega)) ?_ ⟨hφ,hF⟩;intro q hq;rcases List.mem_cons.1 hq with rfl | hq
  ·exact hv
  exact hE q hq
 | doneT hi hl hd hv hm hφ _ ih =>
  intro hlu hall hE hF;refine ih (fun p hp=>(List.mem_cons.1 hp).elim (fun e=>e▸hl) (hlu p)) (fun j h1 h2=>hall j (by omega) (by simp;omega)) ?_ ⟨hφ,hF⟩;intro q hq;rcases List.mem_cons.1 hq with rfl | hq
  ·exact hv
  exact hE q hq
 | doneN hi hl hd _ ih =>
  intro hlu hall hE hF;exact ih (fun p hp=>(List.mem_cons.1 hp).elim (fun e=>e▸hl) (hlu p)) (fun j h1 h2=>hall j (by omega) (by simp;omega)) hE hF
 | turnN _ _ hl=>intro _ hall;exact absurd (hall _ (Nat.le_refl _) (by simp)) (by simp [hl])
 | det _ _ hl=>intro _ hall;exact absurd (hall _ (Nat.le_refl _) (by simp)) (by simp [hl])
 | und _ _ _ _ _ hl=>intro _ hall;exact absurd (hall _ (Nat.le_refl _) (by simp)) (by simp [hl])
 | turn _ _ _ _ _ hl=>intro _ hall;exact absurd (hall _ (Nat.le_refl _) (by simp)) (by simp [hl])
theorem HC.set {q:aN→Prop} {mi:Nat} {ls:Array Bool} {σc:aN} {i:Nat} (hiu:us.contains i=false) (h:HC us q mi ls σc):HC us q mi (ls.setIfInBounds i true) σc:=by
 rcases h with h | ⟨t,hu,hl,hb⟩
 ·exact .inl h
 exact .inr ⟨t,hu,by rw [getD_set_ne false (fun e=>by subst e;rw [hiu] at hu;cases hu)];exact hl,hb⟩
theorem HS.set {prev:List (Nat×aN)} {ls:Array Bool} {σc σ:aN} {i:Nat} (hiu:us.contains i=false) (h:HS us prev ls σc σ):HS us prev (ls.setIfInBounds i true) σc σ:=by
 rcases h with h | ⟨p,hp,hu,hl⟩
 ·exact .inl h
 exact .inr ⟨p,hp,hu,by rw [getD_set_ne false (fun e=>by rw [← e,hiu] at hu;cases hu)];exact hl⟩
theorem RC.later {σc:aN} {ls:Array Bool} {a:Act} {K K':Hp} {i:Nat} {od:Option Nat} {y:Value} (hK:K.le K') (hiu:us.contains i=false) (hdst:∀ t o d,t < m→t≠i→ops[t]?=some o→o.dst=some d→∀ di,od=some di→d≠di) {prev:List (Nat×aN)} {σ:aN} {j:Nat} {rest:List Oper} {E:bX} {F:bY}
  (h:RC P r ops ms D k M w0 H0 Hs L0 pp us Sg fn σc ls a K prev σ j rest E F):i < j→j+rest.length=m→(∀ t,t < rest.length→rest[t]?=ops[j+t]?) →
  RC P r ops ms D k M w0 H0 Hs L0 pp us Sg fn σc (ls.setIfInBounds i true) (a.put od y) K' prev σ j rest E F:=by
 induction h with
 | nil hσ h=>exact fun _ _ _=>.nil (hσ.set hiu) h
 | @doneD prev σ j o rest E F d v hl hd hv _ ih =>
  intro h1 h2 h3;have ho:ops[j]?=some o:=by have:=h3 0 (by simp);simpa using this.symm
  have hne:=hdst j o d (by simp at h2;omega) (by omega) ho hd;refine .doneD (by rw [getD_set_ne false (by omega)];exact hl) hd (by rw [fP hne];exact hv) (ih (by omega) (by simp at h2;omega) (fun t ht=>?_));have:=h3 (t+1) (by simpa using ht);simpa [Nat.add_assoc,Nat.add_comm 1 t] using this
 | @doneU prev σ j o rest E F d v φ hl hd hv hm hφ _ ih =>
  intro h1 h2 h3;have ho:ops[j]?=some o:=by have:=h3 0 (by simp);simpa using this.symm
  have hne:=hdst j o d (by simp at h2;omega) (by omega) ho hd;refine .doneU (by rw [getD_set_ne false (by omega)];exact hl) hd (by rw [fP hne];exact hv) hm (hm _ _ hK hφ) (ih (by omega) (by simp at h2;omega) (fun t ht=>?_));have:=h3 (t+1) (by simpa using ht);simpa [Nat.add_assoc,Nat.add_comm 1 t] using this
 | @doneT prev σ τ j o rest E F d v φ hi hl hd hv hm hφ _ ih =>
  intro h1 h2 h3;have ho:ops[j]?=some o:=by have:=h3 0 (by simp);simpa using this.symm
  have hne:=hdst j o d (by simp at h2;omega) (by omega) ho hd;refine .doneT hi (by rw [getD_set_ne false (by omega)];exact hl) hd (by rw [fP hne];exact hv) hm (hm _ _ hK hφ) (ih (by omega) (by simp at h2;omega) (fun t ht=>?_));have:=h3 (t+1) (by simpa using ht);simpa [Nat.add_assoc,Nat.add_comm 1 t] using this
 | @doneN prev σ τ j o rest E F hi hl hd _ ih =>
  intro h1 h2 h3;refine .doneN hi (by rw [getD_set_ne false (by omega)];exact hl) hd (ih (by omega) (by simp at h2;omega) (fun t ht=>?_));have:=h3 (t+1) (by simpa using ht);simpa [Nat.add_assoc,Nat.add_comm 1 t] using this
 | turnN σ1 hi hl hσ hd hk hS1 _ ih =>
  intro h1 h2 h3;refine .turnN σ1 hi (by rw [getD_set_ne false (by omega)];exact hl) (hσ.set hiu) hd hk hS1 (ih (by omega) (by simp at h2;omega) (fun t ht=>?_));have:=h3 (t+1) (by simpa using ht);simpa [Nat.add_assoc,Nat.add_comm 1 t] using this
 | det q hne hl hq hb hp hqc hd hk _ ih =>
  intro h1 h2 h3;refine .det q hne (by rw [getD_set_ne false (by omega)];exact hl) hq hb hp (hqc.set hiu) hd hk (ih (by omega) (by simp at h2;omega) (fun t ht=>?_));have:=h3 (t+1) (by simpa using ht);simpa [Nat.add_assoc,Nat.add_comm 1 t] using this
 | und x0 f G q hne hl hq hb hp hqc hm hu hd hk _ ih =>
  intro h1 h2 h3;refine .und x0 f G q hne (by rw [getD_set_ne false (by omega)];exact hl) hq hb hp (hqc.set hiu) hm hu hd hk (fun x=>ih x (by omega) (by simp at h2;omega) (fun t ht=>?_));have:=h3 (t+1) (by simpa using ht);simpa [Nat.add_assoc,Nat.add_comm 1 t] using this
 | turn x0 f G σ1 hi hl hσ hm hu hd hk hS1 _ ih =>
  intro h1 h2 h3;refine .turn x0 f G σ1 hi (by rw [getD_set_ne false (by omega)];exact hl) (hσ.set hiu) hm hu hd hk hS1 (fun x=>ih x (by omega) (by simp at h2;omega) (fun t ht=>?_));have:=h3 (t+1) (by simpa using ht);simpa [Nat.add_assoc,Nat.add_comm 1 t] using this
theorem RC.after {σc σn:aN} {ls:Array Bool} {a:Act} {K K':Hp} {u:Nat} {od:Option Nat} {y:Value} (hK:K.le K') (hsz:u < ls.size) (hu:us.contains u=true) (hlu:ls.getD u false=false) (hch:fO us ms=true)
  (hcl:∀ t,ls.getD t false=true→∀ s,(ms.getD t 0).testBit s=true→ls.getD s false=true) (hdst:∀ t o d,t < m→t≠u→ops[t]?=some o→o.dst=some d→∀ di,od=some di→d≠di) {prev:List (Nat×aN)} {σ:aN} {j:Nat} {rest:List Oper} {E:bX} {F:bY}
  (h:RC P r ops ms D k M w0 H0 Hs L0 pp us Sg fn σc ls a K prev σ j rest E F):(σn=σ∨∃ p∈prev,p.2=σn∧us.contains p.1=true∧p.1≠u∧ls.getD p.1 false=false)→u < j→j+rest.length=m→(∀ t,t < rest.length→rest[t]?=ops[j+t]?) →
  RC P r ops ms D k M w0 H0 Hs L0 pp us Sg fn σn (ls.setIfInBounds u true) (a.put od y) K' prev σ j rest E F:=by
 have hHS:∀ {prev:List (Nat×aN)} {σ:aN},(σn=σ∨∃ p∈prev,p.2=σn∧us.contains p.1=true∧p.1≠u∧ls.getD p.1 false=false)→HS us prev (ls.setIfInBounds u true) σn σ:=by
  rintro prev σ (h | ⟨p,hp,_,h1,h2,h3⟩)
  ·exact .inl h
  exact .inr ⟨p,hp,h1,by rw [getD_set_ne false (Ne.symm h2)];exact h3⟩
 have hHC:∀ {q:aN→Prop} {mi:Nat} {prev:List (Nat×aN)} {σ:aN},(σn=σ∨∃ p∈prev,p.2=σn∧us.contains p.1=true∧p.1≠u∧ls.getD p.1 false=false)→q σ→HP q mi prev→HC us q mi (ls.setIfInBounds u true) σn:=by
  rintro q mi prev σ (h | ⟨⟨t,τ⟩,hp,e,h1,h2,h3⟩) hq hpp
  ·subst h;exact .inl hq
  rcases hpp.at hp with h | h
  ·exact .inl (e▸h)
  exact .inr ⟨t,h1,by rw [getD_set_ne false (Ne.symm h2)];exact h3,h⟩
 induction h with
 | nil hσ h=>exact fun hp _ _ _=>.nil (hHS hp) h
 | @doneD prev σ j o rest E F d v hl hd hv _ ih =>
  intro hp h1 h2 h3;have ho:ops[j]?=some o:=by have:=h3 0 (by simp);simpa using this.symm
  have hne:=hdst j o d (by simp at h2;omega) (by omega) ho hd;refine .doneD (by rw [getD_set_ne false (by omega)];exact hl) hd (by rw [fP hne];exact hv) (ih hp (by omega) (by simp at h2;omega) (fun t ht=>?_));have:=h3 (t+1) (by simpa using ht);simpa [Nat.add_assoc,Nat.add_comm 1 t] using this
 | @doneU prev σ j o rest E F d v φ hl hd hv hm hφ hr ih =>
  intro hp h1 h2 h3;have ho:ops[j]?=some o:=by have:=h3 0 (by simp);simpa using this.symm
  have hne:=hdst j o d (by simp at h2;omega) (by omega) ho hd;refine .doneU (by rw [getD_set_ne false (by omega)];exact hl) hd (by rw [fP hne];exact hv) hm (hm _ _ hK hφ) (ih hp (by omega) (by simp at h2;omega) (fun t ht=>?_));have:=h3 (t+1) (by simpa using ht);simpa [Nat.add_assoc,Nat.add_comm 1 t] using this
 | @doneT prev σ σ' j o rest E F d v φ hi hl =>
  intro _ h1;have:=hcl j hl u (fO.at hch hu hi h1);rw [hlu] at this;cases this
 | @doneN prev σ σ' j o rest E F hi hl =>
  intro _ h1;have:=hcl j hl u (fO.at hch hu hi h1);rw [hlu] at this;cases this
 | @turnN prev σ j o rest E F σ1 hi hl hσ hd hk hS1 _ ih =>
  intro hpv h1 h2 h3;refine .turnN σ1 hi (by rw [getD_set_ne false (by omega)];exact hl) (hHS hpv) hd hk hS1 (ih (.inr ?_) (by omega) (by simp at h2;omega) (fun t ht=>?_))
  ·rcases hpv with rfl | ⟨p,hp,h⟩
   ·exact ⟨_,List.mem_cons_self,rfl,hi,by simp;omega,hl⟩
   exact ⟨p,List.mem_cons_of_mem _ hp,h⟩
  have:=h3 (t+1) (by simpa using ht);simpa [Nat.add_assoc,Nat.add_comm 1 t] using this
 | det q hne hl hq hb hp hqc hd hk _ ih =>
  intro hpv h1 h2 h3;refine .det q hne (by rw [getD_set_ne false (by omega)];exact hl) hq hb hp (hHC hpv hq hp) hd hk (ih hpv (by omega) (by simp at h2;omega) (fun t ht=>?_));have:=h3 (t+1) (by simpa using ht);simpa [Nat.add_assoc,Nat.add_comm 1 t] using this
 | und x0 f G q hne hl hq hb hp hqc hm hu hd hk _ ih =>
  intro hpv h1 h2 h3;refine .und x0 f G q hne (by rw [getD_set_ne false (by omega)];exact hl) hq hb hp (hHC hpv hq hp) hm hu hd hk (fun x=>ih x hpv (by omega) (by simp at h2;omega) (fun t ht=>?_));have:=h3 (t+1) (by simpa using ht);simpa [Nat.add_assoc,Nat.add_comm 1 t] using this
 | @turn prev σ j o rest E F d α x0 f G σ1 hi hl hσ hm hu' hd hk hS1 _ ih =>
  intro hpv h1 h2 h3;refine .turn x0 f G σ1 hi (by rw [getD_set_ne false (by omega)];exact hl) (hHS hpv) hm hu' hd hk hS1 (fun x=>ih x (.inr ?_) (by omega) (by simp at h2;omega) (fun t ht=>?_))
  ·rcases hpv with rfl | ⟨p,hp,h⟩
   ·exact ⟨_,List.mem_cons_self,rfl,hi,by simp;omega,hl⟩
   exact ⟨p,List.mem_cons_of_mem _ hp,h⟩
  have:=h3 (t+1) (by simpa using ht);simpa [Nat.add_assoc,Nat.add_comm 1 t] using this
def qC (P:Program) (r:Option Nat) (ops:Array Oper) (ms:List Nat) (D:List Deferred) (k:Nat) (M:Prop) (w0:World) (H0:Hp) (Hs:List Hp) (L0:bX) (pp:List PanicEntry→aP) (us:List Nat) (Sg:Option (Nat→Act→aN)) (fn:aN→bX→bY→Prop) (σc:aN) (ls':Array Bool) (d:Nat) (a:Act) (K:Hp) (prev:List (Nat×aN)) (σ:aN) (j:Nat) (rest:List Oper) (E:bX) (F:bY):aP:=fun a' w' =>
 (∃ y,a'=a.put (some d) y)∧St M w0 H0 (hQ w0 H0 σc w'::Hs) σc w'∧K.le (hQ w0 H0 σc w')∧RC P r ops ms D k M w0 H0 Hs L0 pp us Sg fn σc ls' a' (hQ w0 H0 σc w') prev σ j rest E F
theorem RC.step {σc:aN} {ls:Array Bool} {a:Act} {w:World} {K:Hp} {i di:Nat} {oi:Oper} (hS:St M w0 H0 (K::Hs) σc w) (hA0:aV D k a L0) (hoi:ops[i]?=some oi) (hdi:oi.dst=some di) (hdk:di < k) (hli:ls.getD i false=false) (hsz:i < ls.size) (hop:hY oi.op=true∨fM oi.op=true) (hiu:us.contains i=false)
  (hanc:∀ t,(ms.getD i 0).testBit t=true→ls.getD t false=true)
  (hdep:∀ t o d,t < m→ops[t]?=some o→o.dst=some d→d∈oi.looksAt ops→ls.getD t false=true) (hdst:∀ t o d,t < m→t≠i→ops[t]?=some o→o.dst=some d→d≠di)
  (hcl:fM oi.op=true→∀ t,t < i→jT ops ms t=true→ls.getD t false=true)
  {prev:List (Nat×aN)} {σ:aN} {j:Nat} {rest:List Oper} {E:bX} {F:bY} (h:RC P r ops ms D k M w0 H0 Hs L0 pp us Sg fn σc ls a K prev σ j rest E F) :
  j≤i→i < m→j+rest.length=m→(∀ t,t < rest.length→rest[t]?=ops[j+t]?)→(∀ q∈E,q.1∈oi.looksAt ops→a.tmps[q.1]?=some q.2)→KG (oi.looksAt ops) F K →
  O P r ops (qC P r ops ms D k M w0 H0 Hs L0 pp us Sg fn σc (ls.setIfInBounds i true) di a K prev σ j rest E F) pp [oi] a w:=by
 have hls:(ls.setIfInBounds i true).getD i false=true:=by simp [hsz]
 have hdst':∀ t o d,t < m→t≠i→ops[t]?=some o→o.dst=some d→∀ di',some di=some di'→d≠di':=fun t o d h1 h2 h3 h4 di' e=>by cases e;exact hdst t o d h1 h2 h3 h4
 induction h with
 | nil hσ h=>intro h1 h2 h3;simp at h3;omega
 | @doneD prev σ j o rest E F d v hl hd hv hrest ih =>
  intro h1 h2 h3 h4 hE hF;have hji:j≠i:=fun e=>by subst e;rw [hli] at hl;cases hl
  have ho:ops[j]?=some o:=by have:=h4 0 (by simp);simpa using this.symm
  have hne:=hdst j o d (by omega) hji ho hd;refine bJ (ih (by omega) h2 (by simp at h3;omega) (fun t ht=>?_) ?_ hF) ?_
  ·have:=h4 (t+1) (by simpa using ht);simpa [Nat.add_assoc,Nat.add_comm 1 t] using this
  ·intro q hq hqs;rcases List.mem_cons.1 hq with rfl | hq
   ·exact hv
   exact hE q hq hqs
  rintro a' w' ⟨⟨y,rfl⟩,hs,hk,hr⟩;exact ⟨⟨y,rfl⟩,hs,hk,.doneD (by rw [getD_set_ne false (Ne.symm hji)];exact hl) hd (by rw [dV hne];exact hv) hr⟩
 | @doneU prev σ j o rest E F d v φ hl hd hv hm hφ hrest ih =>
  intro h1 h2 h3 h4 hE hF;have hji:j≠i:=fun e=>by subst e;rw [hli] at hl;cases hl
  have ho:ops[j]?=some o:=by have:=h4 0 (by simp);simpa using this.symm
  have hne:=hdst j o d (by omega) hji ho hd;refine bJ (ih (by omega) h2 (by simp at h3;omega) (fun t ht=>?_) ?_ ⟨fun _=>hφ,hF⟩) ?_
  ·have:=h4 (t+1) (by simpa using ht);simpa [Nat.add_assoc,Nat.add_comm 1 t] using this
  ·intro q hq hqs;rcases List.mem_cons.1 hq with rfl | hq
   ·exact hv
   exact hE q hq hqs
  rintro a' w' ⟨⟨y,rfl⟩,hs,hk,hr⟩;exact ⟨⟨y,rfl⟩,hs,hk,.doneU (by rw [getD_set_ne false (Ne.symm hji)];exact hl) hd (by rw [dV hne];exact hv) hm (hm _ _ hk hφ) hr⟩
 | @doneT prev σ τ j o rest E F d v φ hi hl hd hv hm hφ hrest ih =>
  intro h1 h2 h3 h4 hE hF;have hji:j≠i:=fun e=>by subst e;rw [hli] at hl;cases hl
  have ho:ops[j]?=some o:=by have:=h4 0 (by simp);simpa using this.symm
  have hne:=hdst j o d (by omega) hji ho hd;refine bJ (ih (by omega) h2 (by simp at h3;omega) (fun t ht=>?_) ?_ ⟨fun _=>hφ,hF⟩) ?_
  ·have:=h4 (t+1) (by simpa using ht);simpa [Nat.add_assoc,Nat.add_comm 1 t] using this
  ·intro q hq hqs;rcases List.mem_cons.1 hq with rfl | hq
   ·exact hv
   exact hE q hq hqs
  rintro a' w' ⟨⟨y,rfl⟩,hs,hk,hr⟩;exact ⟨⟨y,rfl⟩,hs,hk,.doneT hi (by rw [getD_set_ne false (Ne.symm hji)];exact hl) hd (by rw [dV hne];exact hv) hm (hm _ _ hk hφ) hr⟩
 | @doneN prev σ τ j o rest E F hi hl hd hrest ih =>
  intro h1 h2 h3 h4 hE hF;have hji:j≠i:=fun e=>by subst e;rw [hli] at hl;cases hl
  refine bJ (ih (by omega) h2 (by simp at h3;omega) (fun t ht=>?_) hE hF) ?_
  ·have:=h4 (t+1) (by simpa using ht);simpa [Nat.add_assoc,Nat.add_comm 1 t] using this
  rintro a' w' ⟨⟨y,rfl⟩,hs,hk,hr⟩;exact ⟨⟨y,rfl⟩,hs,hk,.doneN hi (by rw [getD_set_ne false (Ne.symm hji)];exact hl) hd hr⟩
 | @turnN prev σ j o rest E F σ1 hi hl hσ hd hk hS1 hrest ih =>
  intro h1 h2 h3 h4 hE hF;have h4':∀ t,t < rest.length→rest[t]?=ops[j+1+t]?:=fun t ht=>by have:=h4 (t+1) (by simpa using ht);simpa [Nat.add_assoc,Nat.add_comm 1 t] using this
  have hji:j≠i:=fun e=>by subst e;rw [hiu] at hi;cases hi
  refine bJ (ih (by omega) h2 (by simp at h3;omega) h4' hE hF) ?_;rintro a' w' ⟨⟨y,rfl⟩,hs,hkk,hr⟩;exact ⟨⟨y,rfl⟩,hs,hkk,.turnN σ1 hi (by rw [getD_set_ne false (Ne.symm hji)];exact hl) (hσ.set hiu) hd hk hS1 hr⟩
 | @det prev σ j o rest E F d v q hne' hl hq hb hp hqc hd hk hrest ih =>
  intro h1 h2 h3 h4 hE hF;have ho:ops[j]?=some o:=by have:=h4 0 (by simp);simpa using this.symm
  have h4':∀ t,t < rest.length→rest[t]?=ops[j+1+t]?:=fun t ht=>by have:=h4 (t+1) (by simpa using ht);simpa [Nat.add_assoc,Nat.add_comm 1 t] using this
  by_cases hji:j=i
  ·subst hji;obtain rfl:o=oi:=Option.some.inj (ho.symm.trans hoi);obtain rfl:d=di:=Option.some.inj (hd.symm.trans hdi);have hqn:q σc:=by
    rcases hqc with h | ⟨t,_,h,h'⟩
    ·exact h
    have:=hanc t h';rw [h] at this;cases this
   refine bJ (fN hd (fun a' w' h=>?_) (hk σc hqn a w K hS (jM hA0 hE) hF)) ?_
   ·obtain ⟨_,_,_,_,_,h,_⟩:=h;exact h.trans hA0.defers.symm
   rintro a' w' ⟨⟨x,K',hle,hs,hv,_,_⟩,y,rfl⟩;have hKv:K.le (hQ w0 H0 σc w'):=hle.trans (hs.le K' List.mem_cons_self);exact ⟨⟨y,rfl⟩,hs.tail.vis_self,hKv,.doneD hls hd hv (RC.later hKv hiu hdst' hrest (by omega) (by simp at h3;omega) h4')⟩
  have hdn:d∉oi.looksAt ops:=fun hm=>by
   have:=hdep j o d (by omega) ho hd hm;rw [hl] at this;cases this
  refine bJ (ih (by omega) h2 (by simp at h3;omega) h4' ?_ hF) ?_
  ·intro p hpe hps;rcases List.mem_cons.1 hpe with rfl | hpe
   ·exact absurd hps hdn
   exact hE p hpe hps
  rintro a' w' ⟨⟨y,rfl⟩,hs,hkk,hr⟩;exact ⟨⟨y,rfl⟩,hs,hkk,.det q hne' (by rw [getD_set_ne false (Ne.symm hji)];exact hl) hq hb hp (hqc.set hiu) hd hk hr⟩
 | @und prev σ j o rest E F d α x0 f G q hne' hl hq hb hp hqc hm hu hd hk hrest ih =>
  intro h1 h2 h3 h4 hE hF;have ho:ops[j]?=some o:=by have:=h4 0 (by simp);simpa using this.symm
  have h4':∀ t,t < rest.length→rest[t]?=ops[j+1+t]?:=fun t ht=>by have:=h4 (t+1) (by simpa using ht);simpa [Nat.add_assoc,Nat.add_comm 1 t] using this
  by_cases hji:j=i
  ·subst hji;obtain rfl:o=oi:=Option.some.inj (ho.symm.trans hoi);obtain rfl:d=di:=Option.some.inj (hd.symm.trans hdi);have hqn:q σc:=by
    rcases hqc with h | ⟨t,_,h,h'⟩
    ·exact h
    have:=hanc t h';rw [h] at this;cases this
   refine bJ (fN hd (fun a' w' h=>?_) (hk σc hqn a w K hS (jM hA0 hE) hF)) ?_
   ·obtain ⟨_,_,_,_,_,h,_⟩:=h;exact h.trans hA0.defers.symm
   rintro a' w' ⟨⟨x,K',hle,hs,hv,_,hG⟩,y,rfl⟩;have hKv:K.le (hQ w0 H0 σc w'):=hle.trans (hs.le K' List.mem_cons_self);exact ⟨⟨y,rfl⟩,hs.tail.vis_self,hKv,.doneU hls hd hv (fun A B h=>hm x A B h) (hm x _ _ (hs.le K' List.mem_cons_self) hG) (RC.later hKv hiu hdst' (hrest x) (by omega) (by simp at h3;omega) h4')⟩
  have hlt:j < i:=by omega
  have himm:hY oi.op=true∨∀ x:α,x=x0:=by
   rcases hop with h | h
   ·exact .inl h
   rcases hu with hu | hu
   ·have:=hcl h j hlt hu;rw [hl] at this;cases this
   exact .inr hu
  have hdn:d∉oi.looksAt ops:=fun hmm=>by
   have:=hdep j o d (by omega) ho hd hmm;rw [hl] at this;cases this
  refine bJ (iU (N:=fun x=>qC P r ops ms D k M w0 H0 Hs L0 pp us Sg fn σc (ls.setIfInBounds i true) di a K prev σ (j+1) rest ((d,f x)::E) ((d,G x)::F)) x0 himm (fun x=>ih x (by omega) h2 (by simp at h3;omega) h4' ?_ ⟨fun hc=>absurd (by simpa using hc) hdn,hF⟩)) ?_
  ·intro p hpe hps;rcases List.mem_cons.1 hpe with rfl | hpe
   ·exact absurd hps hdn
   exact hE p hpe hps
  intro a' w' hx;obtain ⟨hu1,hs,hkk,_⟩:=hx x0;refine ⟨hu1,hs,hkk,.und x0 f G q hne' (by rw [getD_set_ne false (Ne.symm hji)];exact hl) hq hb hp (hqc.set hiu) hm hu hd hk (fun x=>(hx x).2.2.2)⟩
 | @turn prev σ j o rest E F d α x0 f G σ1 hi hl hσ hm hu hd hk hS1 hrest ih =>
  intro h1 h2 h3 h4 hE hF;have ho:ops[j]?=some o:=by have:=h4 0 (by simp);simpa using this.symm
  have h4':∀ t,t < rest.length→rest[t]?=ops[j+1+t]?:=fun t ht=>by have:=h4 (t+1) (by simpa using ht);simpa [Nat.add_assoc,Nat.add_comm 1 t] using this
  have hji:j≠i:=fun e=>by subst e;rw [hiu] at hi;cases hi
  have hlt:j < i:=by omega
  have himm:hY oi.op=true:=by
   rcases hop with h | h
   ·exact h
   have:=hcl h j hlt hu;rw [hl] at this;cases this
  have hdn:d∉oi.looksAt ops:=fun hmm=>by
   have:=hdep j o d (by omega) ho hd hmm;rw [hl] at this;cases this
  refine bJ (mT (N:=fun x=>qC P r ops ms D k M w0 H0 Hs L0 pp us Sg fn σc (ls.setIfInBounds i true) di a K ((j,σ)::prev) (σ1 x) (j+1) rest ((d,f x)::E) ((d,G x)::F)) x0 himm (fun x=>ih x (by omega) h2 (by simp at h3;omega) h4' ?_ ⟨fun hc=>absurd (by simpa using hc) hdn,hF⟩)) ?_
  ·intro p hpe hps;rcases List.mem_cons.1 hpe with rfl | hpe
   ·exact absurd hps hdn
   exact hE p hpe hps
  intro a' w' hx;obtain ⟨hu1,hs,hkk,_⟩:=hx x0;refine ⟨hu1,hs,hkk,.turn x0 f G σ1 hi (by rw [getD_set_ne false (Ne.symm hji)];exact hl) (hσ.set hiu) hm hu hd hk hS1 (fun x=>(hx x).2.2.2)⟩
def yI (P:Program) (r:Option Nat) (ops:Array Oper) (ms:List Nat) (D:List Deferred) (k:Nat) (M:Prop) (w0:World) (H0:Hp) (Hs:List Hp) (L0:bX) (pp:List PanicEntry→aP) (us:List Nat) (Sg:Option (Nat→Act→aN)) (u:Nat) (fn:aN→bX→bY→Prop) (ls':Array Bool) (od:Option Nat) (a:Act) (K:Hp) (prev:List (Nat×aN)) (σ:aN) (j:Nat) (rest:List Oper) (E:bX) (F:bY):aP:=fun a' w' =>
 ∃ σc,(∃ y,a'=a.put od y∧∀ S,Sg=some S→σc=S u a')∧St M w0 H0 (hQ w0 H0 σc w'::Hs) σc w'∧K.le (hQ w0 H0 σc w')∧RC P r ops ms D k M w0 H0 Hs L0 pp us Sg fn σc ls' a' (hQ w0 H0 σc w') prev σ j rest E F
theorem RC.stepT {σc:aN} {ls:Array Bool} {a:Act} {w:World} {K:Hp} {u:Nat} {od:Option Nat} {oi:Oper} (hS:St M w0 H0 (K::Hs) σc w) (hA0:aV D k a L0) (hoi:ops[u]?=some oi) (hdi:oi.dst=od) (hdk:∀ di,od=some di→di < k) (hli:ls.getD u false=false) (hsz:u < ls.size)
  (hut:us.contains u=true) (himu:Sg.isSome=true→hY oi.op=true∨fM oi.op=true) (hch:fO us ms=true) (hcl:∀ t,ls.getD t false=true→∀ s,(ms.getD t 0).testBit s=true→ls.getD s false=true)
  (hanc:∀ t,(ms.getD u 0).testBit t=true→ls.getD t false=true)
  (hdep:∀ t o d,t < m→ops[t]?=some o→o.dst=some d→d∈oi.looksAt ops→ls.getD t false=true) (hdst:∀ t o d,t < m→t≠u→ops[t]?=some o→o.dst=some d→∀ di,od=some di→d≠di)
  {prev:List (Nat×aN)} {σ:aN} {j:Nat} {rest:List Oper} {E:bX} {F:bY} (h:RC P r ops ms D k M w0 H0 Hs L0 pp us Sg fn σc ls a K prev σ j rest E F) :
  (∀ p∈prev,p.1 < j)→j≤u→u < m→j+rest.length=m→(∀ t,t < rest.length→rest[t]?=ops[j+t]?)→(∀ q∈E,q.1∈oi.looksAt ops→a.tmps[q.1]?=some q.2)→KG (oi.looksAt ops) F K →
  O P r ops (yI P r ops ms D k M w0 H0 Hs L0 pp us Sg u fn (ls.setIfInBounds u true) od a K prev σ j rest E F) pp [oi] a w:=by
 have hls:(ls.setIfInBounds u true).getD u false=true:=by simp [hsz]
 induction h with
 | nil hσ h=>intro _ h1 h2 h3;simp at h3;omega
 | @doneD prev σ j o rest E F d v hl hd hv hrest ih =>
  intro hp h1 h2 h3 h4 hE hF;have hji:j≠u:=fun e=>by subst e;rw [hli] at hl;cases hl
  have ho:ops[j]?=some o:=by have:=h4 0 (by simp);simpa using this.symm
  have hne:=hdst j o d (by omega) hji ho hd;refine bJ (ih (fun p h=>Nat.lt_succ_of_lt (hp p h)) (by omega) h2 (by simp at h3;omega) (fun t ht=>?_) ?_ hF) ?_
  ·have:=h4 (t+1) (by simpa using ht);simpa [Nat.add_assoc,Nat.add_comm 1 t] using this
  ·intro q hq hqs;rcases List.mem_cons.1 hq with rfl | hq
   ·exact hv
   exact hE q hq hqs
  rintro a' w' ⟨σc',⟨y,rfl,hSy⟩,hs,hk,hr⟩;exact ⟨σc',⟨y,rfl,hSy⟩,hs,hk,.doneD (by rw [getD_set_ne false (Ne.symm hji)];exact hl) hd (by rw [fP hne];exact hv) hr⟩
 | @doneU prev σ j o rest E F d v φ hl hd hv hm hφ hrest ih =>
  intro hp h1 h2 h3 h4 hE hF;have hji:j≠u:=fun e=>by subst e;rw [hli] at hl;cases hl
  have ho:ops[j]?=some o:=by have:=h4 0 (by simp);simpa using this.symm
  have hne:=hdst j o d (by omega) hji ho hd;refine bJ (ih (fun p h=>Nat.lt_succ_of_lt (hp p h)) (by omega) h2 (by simp at h3;omega) (fun t ht=>?_) ?_ ⟨fun _=>hφ,hF⟩) ?_
  ·have:=h4 (t+1) (by simpa using ht);simpa [Nat.add_assoc,Nat.add_comm 1 t] using this
  ·intro q hq hqs;rcases List.mem_cons.1 hq with rfl | hq
   ·exact hv
   exact hE q hq hqs
  rintro a' w' ⟨σc',⟨y,rfl,hSy⟩,hs,hk,hr⟩;exact ⟨σc',⟨y,rfl,hSy⟩,hs,hk,.doneU (by rw [getD_set_ne false (Ne.symm hji)];exact hl) hd (by rw [fP hne];exact hv) hm (hm _ _ hk hφ) hr⟩
 | @doneT prev σ τ j o rest E F d v φ hi hl hd hv hm hφ hrest ih =>
  intro hp h1 h2 h3 h4 hE hF;have hji:j≠u:=fun e=>by subst e;rw [hli] at hl;cases hl
  have ho:ops[j]?=some o:=by have:=h4 0 (by simp);simpa using this.symm
  have hne:=hdst j o d (by omega) hji ho hd;refine bJ (ih (fun p h=>(List.mem_cons.1 h).elim (fun e=>e▸Nat.lt_succ_self _) (fun h=>Nat.lt_succ_of_lt (hp p h))) (by omega) h2 (by simp at h3;omega) (fun t ht=>?_) ?_ ⟨fun _=>hφ,hF⟩) ?_
  ·have:=h4 (t+1) (by simpa using ht);simpa [Nat.add_assoc,Nat.add_comm 1 t] using this
  ·intro q hq hqs;rcases List.mem_cons.1 hq with rfl | hq
   ·exact hv
   exact hE q hq hqs
  rintro a' w' ⟨σc',⟨y,rfl,hSy⟩,hs,hk,hr⟩;exact ⟨σc',⟨y,rfl,hSy⟩,hs,hk,.doneT hi (by rw [getD_set_ne false (Ne.symm hji)];exact hl) hd (by rw [fP hne];exact hv) hm (hm _ _ hk hφ) hr⟩
 | @doneN prev σ τ j o rest E F hi hl hd hrest ih =>
  intro hp h1 h2 h3 h4 hE hF;have hji:j≠u:=fun e=>by subst e;rw [hli] at hl;cases hl
  refine bJ (ih (fun p h=>(List.mem_cons.1 h).elim (fun e=>e▸Nat.lt_succ_self _) (fun h=>Nat.lt_succ_of_lt (hp p h))) (by omega) h2 (by simp at h3;omega) (fun t ht=>?_) hE hF) ?_
  ·have:=h4 (t+1) (by simpa using ht);simpa [Nat.add_assoc,Nat.add_comm 1 t] using this
  rintro a' w' ⟨σc',⟨y,rfl,hSy⟩,hs,hk,hr⟩;exact ⟨σc',⟨y,rfl,hSy⟩,hs,hk,.doneN hi (by rw [getD_set_ne false (Ne.symm hji)];exact hl) hd hr⟩
 | @det prev σ j o rest E F d v q hne' hl hq hb hpp hqc hd hk hrest ih =>
  intro hp h1 h2 h3 h4 hE hF;have ho:ops[j]?=some o:=by have:=h4 0 (by simp);simpa using this.symm
  have h4':∀ t,t < rest.length→rest[t]?=ops[j+1+t]?:=fun t ht=>by have:=h4 (t+1) (by simpa using ht);simpa [Nat.add_assoc,Nat.add_comm 1 t] using this
  have hji:j≠u:=fun e=>by subst e;rw [hut] at hne';cases hne'
  focus
   have hqa:∀ σc' (y:Act),(∀ S,Sg=some S→σc'=S u y)→q σc':=by
    rcases hb with h | h | ⟨S,hS,h⟩
    ·have:=hanc j (FO.at h hut (by omega));rw [hl] at this;cases this
    ·exact fun _ _ _=>h _
    exact fun σc' y hy=>by rw [hy S hS];exact h u y hut
   have hdn:d∉oi.looksAt ops:=fun hm=>by
    have:=hdep j o d (by omega) ho hd hm;rw [hl] at this;cases this
   refine bJ (ih (fun p h=>Nat.lt_succ_of_lt (hp p h)) (by omega) h2 (by simp at h3;omega) h4' ?_ hF) ?_
   ·intro p hpe hps;rcases List.mem_cons.1 hpe with rfl | hpe
    ·exact absurd hps hdn
    exact hE p hpe hps
   rintro a' w' ⟨σc',⟨y,rfl,hSy⟩,hs,hkk,hr⟩;exact ⟨σc',⟨y,rfl,hSy⟩,hs,hkk,.det q hne' (by rw [getD_set_ne false (Ne.symm hji)];exact hl) hq hb hpp (.inl (hqa _ _ hSy)) hd hk hr⟩
 | @und prev σ j o rest E F d α x0 f G q hne' hl hq hb hpp hqc hm hu hd hk hrest ih =>
  intro hp h1 h2 h3 h4 hE hF;have hji:j≠u:=fun e=>by subst e;rw [hut] at hne';cases hne'
  rcases hb with h | ⟨S,rfl,hqa⟩
  ·have:=hanc j (FO.at h hut (by omega));rw [hl] at this;cases this
  have ho:ops[j]?=some o:=by have:=h4 0 (by simp);simpa using this.symm
  have h4':∀ t,t < rest.length→rest[t]?=ops[j+1+t]?:=fun t ht=>by have:=h4 (t+1) (by simpa using ht);simpa [Nat.add_assoc,Nat.add_comm 1 t] using this
  have hdn:d∉oi.looksAt ops:=fun hmm=>by
   have:=hdep j o d (by omega) ho hd hmm;rw [hl] at this;cases this
  have himm:hY oi.op=true∨∀ x:α,x=x0:=by
   rcases himu rfl with h | h
   ·exact .inl h
   rcases hu with hu | hu
   ·have h5:u < ops.size:=(Array.getElem?_eq_some_iff.1 hoi).1;have h6:=List.all_eq_true.1 hu u (List.mem_range.2 h5);have h8:Nat.blt j u=true:=by rw [Nat.blt_eq];omega
    rw [hoi,h8] at h6;have h7:(ms.getD u 0).testBit j=true:=by simpa [h] using h6
    have:=hanc j h7;rw [hl] at this;cases this
   exact .inr hu
  refine bJ (iU (N:=fun x=>yI P r ops ms D k M w0 H0 Hs L0 pp us (some S) u fn (ls.setIfInBounds u true) od a K prev σ (j+1) rest ((d,f x)::E) ((d,G x)::F)) x0 himm (fun x=>ih x (fun p h=>Nat.lt_succ_of_lt (hp p h)) (by omega) h2 (by simp at h3;omega) h4' ?_ ⟨fun hc=>absurd (by simpa using hc) hdn,hF⟩)) ?_
  ·intro p hpe hps;rcases List.mem_cons.1 hpe with rfl | hpe
   ·exact absurd hps hdn
   exact hE p hpe hps
  intro a' w' hx;obtain ⟨σc',⟨y,rfl,hSy⟩,hs,hkk,_⟩:=hx x0;refine ⟨σc',⟨y,rfl,hSy⟩,hs,hkk,.und x0 f G q hne' (by rw [getD_set_ne false (Ne.symm hji)];exact hl) hq (.inr ⟨S,rfl,hqa⟩) hpp (.inl (by rw [hSy S rfl];exact hqa u _ hut)) hm hu hd hk (fun x=>?_)⟩;obtain ⟨σx,⟨y',hy',hSy'⟩,_,_,hr⟩:=hx x
  have:σx=σc':=by rw [hSy' S rfl,hSy S rfl]
  rw [← this];exact hr
 | @turn prev σ j o rest E F d α x0 f G σ1 hi hl hσ hm hu hd hk hS1 hrest ih =>
  intro hp h1 h2 h3 h4 hE hF;have hju:j=u:=by
   rcases Nat.lt_or_ge j u with h | h
   ·have:=hanc j (fO.at hch hi hut h);rw [hl] at this;cases this
   omega
  subst hju;obtain rfl:σc=σ:=by
   rcases hσ with h | ⟨p,hpp,hpu,hpl⟩
   ·exact h
   have:=hanc p.1 (fO.at hch hpu hut (hp p hpp));rw [hpl] at this;cases this
  have ho:ops[j]?=some o:=by have:=h4 0 (by simp);simpa using this.symm
  have h4':∀ t,t < rest.length→rest[t]?=ops[j+1+t]?:=fun t ht=>by have:=h4 (t+1) (by simpa using ht);simpa [Nat.add_assoc,Nat.add_comm 1 t] using this
  obtain rfl:o=oi:=Option.some.inj (ho.symm.trans hoi);obtain rfl:od=some d:=hdi.symm.trans hd;refine bJ (fN hd (fun a' w' h=>?_) (hk a w K hS (jM hA0 hE) hF)) ?_
  ·obtain ⟨_,_,_,_,_,h,_⟩:=h;exact h.trans hA0.defers.symm
  rintro a' w' ⟨⟨x,K',hle,hs,hv,_,hG⟩,y,rfl⟩;have hKv:K.le (hQ w0 H0 (σ1 x) w'):=hle.trans (hs.le K' List.mem_cons_self);refine ⟨σ1 x,⟨y,rfl,fun S hS=>hS1 S hS x _ hv⟩,hs.tail.vis_self,hKv,.doneT (σ':=σ1 x) hut hls hd hv (fun A B h=>hm x A B h) (hm x _ _ (hs.le K' List.mem_cons_self) hG) ?_⟩;exact RC.after hKv hsz hut hli hch hcl hdst (hrest x) (.inl rfl) (by omega) (by simp at h3;omega) h4'
 | @turnN prev σ j o rest E F σ1 hi hl hσ hd hk hS1 hrest ih =>
  intro hp h1 h2 h3 h4 hE hF;have hju:j=u:=by
   rcases Nat.lt_or_ge j u with h | h
   ·have:=hanc j (fO.at hch hi hut h);rw [hl] at this;cases this
   omega
  subst hju;obtain rfl:σc=σ:=by
   rcases hσ with h | ⟨p,hpp,hpu,hpl⟩
   ·exact h
   have:=hanc p.1 (fO.at hch hpu hut (hp p hpp));rw [hpl] at this;cases this
  have ho:ops[j]?=some o:=by have:=h4 0 (by simp);simpa using this.symm
  have h4':∀ t,t < rest.length→rest[t]?=ops[j+1+t]?:=fun t ht=>by have:=h4 (t+1) (by simpa using ht);simpa [Nat.add_assoc,Nat.add_comm 1 t] using this
  obtain rfl:o=oi:=Option.some.inj (ho.symm.trans hoi);obtain rfl:od=none:=hdi.symm.trans hd;refine bJ (rG hd (fun a' w' h=>?_) (hk a w K hS (jM hA0 hE) hF)) ?_
  ·obtain ⟨_,_,_,h⟩:=h;exact h.trans hA0.defers.symm
  rintro a' w' ⟨⟨K',hle,hs,_⟩,rfl⟩;have hKv:K.le (hQ w0 H0 σ1 w'):=hle.trans (hs.le K' List.mem_cons_self);exact ⟨σ1,⟨.bool false,rfl,fun S hS=>hS1 S hS _ (jM hA0 hE)⟩,hs.tail.vis_self,hKv,.doneN (σ':=σ1) hut hls hd (RC.after (od:=none) (y:=.bool false) hKv hsz hut hli hch hcl hdst hrest (.inl rfl) (by omega) (by simp at h3;omega) h4')⟩
end
section
variable {P:Program} {r:Option Nat} {n rt:aP} {e:List (Nat×aP)} {p:List PanicEntry→aP} {ops:Array Oper}
variable {D:List Deferred} {k:Nat} {M:Prop} {w0:World} {H0:Hp} {Hs:List Hp} {σ:aN} {L0:bX} {pp:List PanicEntry→aP}
theorem uU {all:List Oper} {m:Nat} {us:List Nat} {T:List (Nat×Nat×Value)} {Sg:Option (Nat→Act→aN)} (hpp:∀ c a w,pp c a w→p c a w) (himm:Sg.isSome=true→∀ i o,us.contains i=true→all[i]?=some o→hY o.op=true∨fM o.op=true) (hok:BX true all m k L0 (T.map (·.1))) (hst:((all.take m).zipIdx.all fun q=>q.1.dst.isSome||us.contains q.2)=true) (hch:fO us (eY all [])=true) (hm:m≤all.length) (fn:aN→bX→bY→Prop)
    (hfn:∀ σ E F,fn σ E F→∀ a w K,St M w0 H0 (K::Hs) σ w→aV D k a (E++L0)→eW F K→O P r all.toArray n p (all.drop m) a w) :
    ∀ (fuel:Nat) (ls:Array Bool) (a:Act) (w:World), ls.size=all.length→uJ ls all.length≤fuel →
      (∀ i o,ls.getD i false=true→all[i]?=some o→∀ x∈o.after,Region.binds .any x=true→ls.getD x.on false=true) →
      (((∀ t,m≤t→ls.getD t false=false)∧(∀ t,(T.map (·.1)).contains t=true→ls.getD t false=true)∧∃ K σ τ,St M w0 H0 (K::Hs) σ w∧aV D k a L0∧RC P r all.toArray (eY all []) D k M w0 H0 Hs L0 pp us Sg fn σ ls a K [] τ 0 (all.take m) [] []) ∨
       (∃ i,m≤i∧i≤all.length∧(∀ t,t < i→ls.getD t false=true)∧(∀ t,i≤t→ls.getD t false=false)∧O P r all.toArray n p (all.drop i) a w)) →
      wpAnyIn (FW r) 0 P .any all.toArray (Q n rt e p) fuel ls a w:=by
  have hend:∀ (ls:Array Bool) (a:Act) (w:World),ls.size=all.length→(∀ t,t < all.length→ls.getD t false=true) →
      (((∀ t,m≤t→ls.getD t false=false)∧(∀ t,(T.map (·.1)).contains t=true→ls.getD t false=true)∧∃ K σ τ,St M w0 H0 (K::Hs) σ w∧aV D k a L0∧RC P r all.toArray (eY all []) D k M w0 H0 Hs L0 pp us Sg fn σ ls a K [] τ 0 (all.take m) [] []) ∨
       (∃ i,m≤i∧i≤all.length∧(∀ t,t < i→ls.getD t false=true)∧(∀ t,i≤t→ls.getD t false=false)∧O P r all.toArray n p (all.drop i) a w))→n a w:=by
    intro ls a w _ hall h;rcases h with ⟨h1,hT,K,σ,τ,hS,hA,hR⟩ | ⟨i,h1,h2,h3,h4,h5⟩
    · have hmN:m=all.length:=by
        rcases Nat.lt_or_ge m all.length with h | h
        · have:=hall m h;rw [h1 m (Nat.le_refl _)] at this;cases this
        omega
      obtain ⟨E,F,hf,hE,hF⟩:=hR.fin (fun p hp=>by cases hp) (fun j _ hj=>hall j (by simp at hj;omega)) (fun q hq=>by simp at hq) trivial
      have:=hfn σ E F hf a w K hS ⟨hA.defers,hA.size,fun i v hi=>by
        rcases jD hi with h | h
        · exact hE (i,v) h
        exact hA.get i v h⟩ hF
      rw [hmN,List.drop_length] at this;exact this
    have hiN:i=all.length:=by
      rcases Nat.lt_or_ge i all.length with h | h
      · have:=hall i h;rw [h4 i (Nat.le_refl _)] at this;cases this
      omega
    rw [hiN,List.drop_length] at h5;exact h5
  have hfin:∀ (ls:Array Bool) (a:Act) (w:World) (K:Hp) (σ τ:aN),St M w0 H0 (K::Hs) σ w→aV D k a L0→(∀ t,t < m→ls.getD t false=true)→RC P r all.toArray (eY all []) D k M w0 H0 Hs L0 pp us Sg fn σ ls a K [] τ 0 (all.take m) [] []→O P r all.toArray n p (all.drop m) a w:=by
    intro ls a w K σ τ hS hA hall hR;obtain ⟨E,F,hf,hE,hF⟩:=hR.fin (fun p hp=>by cases hp) (fun j _ hj=>hall j (by simp at hj;omega)) (fun q hq=>by simp at hq) trivial
    exact hfn σ E F hf a w K hS ⟨hA.defers,hA.size,fun i v hi=>by
      rcases jD hi with h | h
      · exact hE (i,v) h
      exact hA.get i v h⟩ hF
  intro fuel
  induction fuel with
  | zero =>
    intro ls a w hsz hu hcl h;have hall:=uK (Nat.le_zero.1 hu);refine ⟨?_,hend ls a w hsz hall h⟩;rw [List.eq_nil_iff_forall_not_mem];intro t ht;rw [mem_ready] at ht;obtain ⟨h0,o,ho,_⟩:=ht;have hlt:t < all.length:=by have:=(Array.getElem?_eq_some_iff.1 ho).1;simpa using this
    have:=hall t hlt;have h1:t < ls.size:=by omega
    simp [h1] at h0 this;rw [h0] at this;cases this
  | succ fuel ih =>
    intro ls a w hsz hu hcl h;refine ⟨fun hr=>hend ls a w hsz (rQ hsz hok.edge hr) h,fun i hi=>?_⟩;rw [mem_ready] at hi;obtain ⟨h0,oi,hoi,hdeps⟩:=hi;have hoi':all[i]?=some oi:=by simpa using hoi
    have hlt:i < all.length:=(List.getElem?_eq_some_iff.1 hoi').1;have hls:i < ls.size:=by omega
    have hli:ls.getD i false=false:=by simp [hls] at h0 ⊢;exact h0
    have hcl':∀ j o,(ls.setIfInBounds i true).getD j false=true→all[j]?=some o→∀ x∈o.after,Region.binds .any x=true→(ls.setIfInBounds i true).getD x.on false=true:=by
      intro j o hj ho x hx hb;by_cases hji:j=i
      · subst hji;obtain rfl:o=oi:=Option.some.inj (ho.symm.trans hoi');exact getD_set_true (hdeps x hx hb)
      rw [getD_set_ne false (Ne.symm hji)] at hj;exact getD_set_true (hcl j o hj ho x hx hb)
    have hu':uJ (ls.setIfInBounds i true) all.length≤fuel:=by have:=mU hlt hls hli;omega
    have hsz':(ls.setIfInBounds i true).size=all.length:=by simp [hsz]
    have hset:(ls.setIfInBounds i true).getD i false=true:=by simp [hls]
    have hml:=jN (all:=all) (ls:=ls) hcl i oi hoi' hdeps;rcases h with ⟨h1,hT,K,σ,τ,hS,hA,hR⟩ | ⟨j,h1,h2,h3,h4,h5⟩
    · by_cases him:i < m
      · -- one of the first
        have hpre:=hok.pres i oi him hoi';have hdk:∀ di,oi.dst=some di→di < k:=fun di e=>by
          rcases hpre with ⟨d,hd,h,_⟩ | ⟨_,h,_⟩
          · rw [hd] at e;cases e;exact h
          rw [h] at e;cases e
        have hnk:∀ di,oi.dst=some di→∀ v,(di,v)∉L0:=fun di e=>by
          rcases hpre with ⟨d,hd,_,h,_⟩ | ⟨_,h,_⟩
          · rw [hd] at e;cases e;exact h
          rw [h] at e;cases e
        have hcont:∀ a' w' σ' τ' K',(∃ y,a'=a.put oi.dst y)→St M w0 H0 (K'::Hs) σ' w'→RC P r all.toArray (eY all []) D k M w0 H0 Hs L0 pp us Sg fn σ' (ls.setIfInBounds i true) a' K' [] τ' 0 (all.take m) [] []→wpAnyIn (FW r) 0 P .any all.toArray (Q n rt e p) fuel (ls.setIfInBounds i true) a' w':=by
          rintro a' w' σ' τ' K' ⟨y,rfl⟩ hs hr;refine ih _ _ _ hsz' hu' hcl' (.inl ⟨fun t ht=>?_,fun t ht=>getD_set_true (hT t ht),K',σ',τ',hs,?_,hr⟩)
          · rw [getD_set_ne false (by omega)];exact h1 t ht
          refine ⟨?_,?_,fun t v ht=>?_⟩
          · cases oi.dst <;> exact hA.defers
          · cases oi.dst <;> simp [Act.put,hA.size]
          rw [fP (fun di e=>fun e'=>by subst e';exact hnk _ e v (tA ht))];exact hA.get t v ht
        have hdep:∀ t o d,t < m→all.toArray[t]?=some o→o.dst=some d→d∈oi.looksAt all.toArray→ls.getD t false=true:=fun t o d ht ho hd hl=>by
          obtain ⟨x,hx,hb,rfl⟩:=hok.dep t i o oi d ht him (by simpa using ho) hoi' hd hl;exact hdeps x hx hb
        have hdst:∀ t o d,t < m→t≠i→all.toArray[t]?=some o→o.dst=some d→∀ di,oi.dst=some di→d≠di:=fun t o d ht hti ho hd di hdi=>fun e=>by subst e;exact hti (hok.uni t i o oi d ht him (by simpa using ho) hoi' hd hdi)
        have htk:∀ t,t < (all.take m).length→(all.take m)[t]?=all.toArray[0+t]?:=fun t ht=>by
          simp only [List.length_take] at ht;rw [List.getElem?_take,if_pos (by omega)];simp
        by_cases hiu:us.contains i=true
        · have hclm:∀ t,ls.getD t false=true→∀ s,((eY all []).getD t 0).testBit s=true→ls.getD s false=true:=fun t ht s hb=>by
            by_cases htl:t < all.length
            · exact jN (all:=all) (ls:=ls) hcl t all[t] (List.getElem?_eq_getElem htl) (fun x hx hb=>hcl t all[t] ht (List.getElem?_eq_getElem htl) x hx hb) s hb
            have h0:ls.getD t false=false:=by simp [show ¬t < ls.size by omega]
            rw [h0] at ht;cases ht
          refine iO hoi hpp (RC.stepT hS hA hoi rfl hdk hli hls hiu (fun h=>himm h i oi hiu hoi') hch hclm (fun t ht=>hml t ht) hdep hdst hR (fun p hp=>by cases hp) (Nat.zero_le _) him (by simp;omega) htk (fun q hq=>by simp at hq) trivial) ?_;rintro a' w' ⟨σ',⟨y,hy,_⟩,hs,hk,hr⟩;exact hcont a' w' σ' τ _ ⟨y,hy⟩ hs hr
        obtain ⟨di,hdi,_,_,hop⟩:∃ d,oi.dst=some d∧d < k∧(∀ v,(d,v)∉L0)∧(hY oi.op=true∨fM oi.op=true):=hpre.resolve_right fun h=>by
          have hm:(oi,i)∈(all.take m).zipIdx:=List.mem_zipIdx_iff_getElem?.2 (by rw [List.getElem?_take,if_pos him];exact hoi');have:=List.all_eq_true.1 hst _ hm;simp only [h.2.1,Option.isSome_none,Bool.false_or] at this;exact hiu this
        have hdst':∀ t o d,t < m→t≠i→all.toArray[t]?=some o→o.dst=some d→d≠di:=fun t o d h1 h2 h3 h4=>hdst t o d h1 h2 h3 h4 di hdi;rw [hdi] at hcont
        refine iO hoi hpp (RC.step hS hA hoi hdi (hdk di hdi) hli hls hop (by simpa using hiu) (fun t hb=>hml t hb) hdep hdst' (fun hc t ht hut=>hml t (by
          unfold jT at hut;have:=List.all_eq_true.1 hut i (List.mem_range.2 (by simpa using hlt));have hb:Nat.blt t i=true:=by rw [Nat.blt_eq];exact ht
          simp only [hoi,Option.any_some,hc,hb,Bool.and_true,Bool.not_true,Bool.false_or] at this
          exact this)) hR (Nat.zero_le _) him (by simp;omega) htk (fun q hq=>by simp at hq) trivial) ?_
        rintro a' w' ⟨hy,hs,hk,hr⟩;exact hcont a' w' σ τ _ hy hs hr
      · -- the first of the others
        have hall:∀ t,t < i→ls.getD t false=true:=fun t ht=>(hok.suf i (by omega) hlt t ht).elim (hml t) (hT t);have him':i=m:=by
          rcases Nat.lt_or_ge m i with h | h
          · have:=hall m h;rw [h1 m (Nat.le_refl _)] at this;cases this
          omega
        subst him';have hO:=hfin ls a w K σ τ hS hA (fun t ht=>hall t ht) hR;rw [List.drop_eq_getElem_cons hlt] at hO;have hoe:all[i]=oi:=by rw [List.getElem?_eq_getElem hlt] at hoi';exact Option.some.inj hoi'
        rw [hoe] at hO;refine kV hoi hO fun a' w' hO'=>ih _ _ _ hsz' hu' hcl' (.inr ⟨i+1,by omega,by omega,fun t ht=>?_,fun t ht=>?_,hO'⟩)
        · by_cases e:t=i
          · subst e;exact hset
          rw [getD_set_ne false (Ne.symm e)];exact hall t (by omega)
        rw [getD_set_ne false (by omega)];exact h1 t (by omega)
    have hij:i=j:=by
      rcases Nat.lt_trichotomy i j with h | h | h
      · have:=h3 i h;rw [hli] at this;cases this
      · exact h
      rcases hok.suf i (by omega) hlt j h with h' | h'
      · have:=hml j h';rw [h4 j (Nat.le_refl _)] at this;cases this
      have:=hok.tkm j h';omega
    subst hij;rw [List.drop_eq_getElem_cons hlt] at h5;have hoe:all[i]=oi:=by rw [List.getElem?_eq_getElem hlt] at hoi';exact Option.some.inj hoi'
    rw [hoe] at h5;refine kV hoi h5 fun a' w' hO'=>ih _ _ _ hsz' hu' hcl' (.inr ⟨i+1,by omega,by omega,fun t ht=>?_,fun t ht=>?_,hO'⟩)
    · by_cases e:t=i
      · subst e;exact hset
      rw [getD_set_ne false (Ne.symm e)];exact h3 t (by omega)
    rw [getD_set_ne false (by omega)];exact h4 t (by omega)
end
theorem Mp.isMap {κ α:Type} {ke:κ→Value} {enc:α→Value} {H:Hp} {v:Value} {m:List (κ×α)} (h:Mp ke enc H v m):∃ b,v=.map b:=by
 rcases h with ⟨b,rfl,_⟩ | ⟨rfl,_⟩
 ·exact ⟨_,rfl⟩
 exact ⟨_,rfl⟩
theorem PI {P:Program} {r:Option Nat} {D:List Deferred} {k d:Nat} {M:Prop} {w0:World} {H0 K K':Hp} {Hs:List Hp} {L:bX} {ops:Array Oper} {p:List PanicEntry→aP} {α:Type} {f:α→Value} {G:α→Hp→Prop} {σ1:α→aN} (x:α) (hm:kE G) (hG:G x K'):TG ⟨D,k,M,w0,H0⟩ (K'::K::Hs) (σ1 x) ((d,f x)::L) (O P r ops (fun a' w'=>∃ (x:α) (K':Hp),K.le K'∧St M w0 H0 (K'::Hs) (σ1 x) w'∧a'.tmps[d]?=some (f x)∧a'.defers=D∧G x K') p []):=fun _ w hS hA =>
 ⟨x,hQ w0 H0 (σ1 x) w,hS.le K (List.mem_cons_of_mem _ List.mem_cons_self),hS.tail.tail.vis_self,hA.get _ _ (by simp [lk]),hA.defers,hm _ _ _ (hS.le K' List.mem_cons_self) hG⟩
theorem UT {P:Program} {r:Option Nat} {D:List Deferred} {k:Nat} {M:Prop} {w0:World} {H0 K:Hp} {Hs:List Hp} {σ:aN} {L:bX} {ops:Array Oper} {p:List PanicEntry→aP}:TG ⟨D,k,M,w0,H0⟩ (K::Hs) σ L (O P r ops (fun a' w'=>∃ K',K.le K'∧St M w0 H0 (K'::Hs) σ w'∧a'.defers=D) p []):=fun _ _ hS hA=>⟨K,Hp.le.refl K,hS,hA.defers⟩
def YL (P:Program) (D:List Deferred) (k:Nat) (L:bX) (o:Oper) (v:Value):Prop:=∀ a w,aV D k a L→(execOp a.eval o).run P w=.ok (.value v) w
section
variable {P:Program} {D:List Deferred} {k d:Nat} {L:bX} {ty:TypeId} {pos:String} {af:Array Edge}
theorem KT {y:Operand} {v:Value} (hy:ev L y=some v):YL P D k L ⟨some d,.move y,ty,pos,af,none⟩ v:=fun a w hA=>by simp [execOp,hA.eval hy]
theorem rB {y:Operand} {v:Value} (hy:ev L y=some v):YL P D k L ⟨some d,.assign y,ty,pos,af,none⟩ v:=fun a w hA=>by simp [execOp,hA.eval hy]
theorem PJ {y z:Operand} {t u:TypeId} {a b:Int} (hy:ev L y=some (.int .i64 a)) (hz:ev L z=some (.int .i64 b)) (h1 : -9223372036854775808≤a - b∧a - b≤9223372036854775807):YL P D k L ⟨some d,.binOp .sub t y z u,ty,pos,af,none⟩ (.int .i64 (a - b)):=fun c w hA=>by
 simp [execOp,hA.eval hy,hA.eval hz,eqGuard,binOp,Op.intArith,i64 h1.1 h1.2]
end
section
variable {P:Program} {D:List Deferred} {k d:Nat} {L:bX} {ty:TypeId} {pos:String} {af:Array Edge}
end
def nU:List Nat→Bool
 | []=>true
 | x::l=>!l.contains x&&nU l
theorem uV:∀ {l:List Nat},nU l=true→l.Nodup
 | [],_=>List.nodup_nil
 | x::l,h=>by
  unfold nU at h;rw [Bool.and_eq_true] at h;exact List.nodup_cons.2 ⟨by simpa using h.1,uV h.2⟩
variable {rr:Option Nat}
inductive Tk (P:Program) (D:List Deferred) (k:Nat) (all:List Oper):Array Bool→bX→List (Nat×Nat×Value)→Prop
 | nil {ls:Array Bool} {L:bX}:Tk P D k all ls L []
 | cons {ls:Array Bool} {L:bX} {t d:Nat} {o:Oper} {v:Value} {T:List (Nat×Nat×Value)} (ho:all.toArray[t]?=some o) (hd:o.dst=some d) (hdk:Nat.blt d k=true) (hg:∀ y,Region.wanted o y=true) (hf:Region.free .any all.toArray ls t=true) (hr:(Region.ready .any all.toArray ls).contains t=true) (hab:∀ a w,o.about P w a=none) (hy:YL P D k L o v) (h:Tk P D k all (ls.setIfInBounds t true) ((d,v)::L) T):Tk P D k all ls L ((t,d,v)::T)
section
variable {P:Program} {n rt:aP} {e:List (Nat×aP)} {p:List PanicEntry→aP}
variable {D:List Deferred} {k:Nat} {L0:bX} {pp:List PanicEntry→aP}
theorem Tk.go {all:List Oper} {w:World} {TT:List (Nat×Nat×Value)} (hrr:TT=[]∨rr=none) (hp:∀ c (d:Nat) v a w,p c (a.put (some d) v) w→p c a w) (hns:Region.noSelect all.toArray=true) :
  ∀ {T:List (Nat×Nat×Value)} {ls:Array Bool} {L:bX},(TT=[]→T=[])→Tk P D k all ls L T→∀ (fuel:Nat) (a:Act),aV D k a L→aV D k a L0→(∀ q∈T,∀ v,(q.2.1,v)∉L0)→(T.map (·.2.1)).Nodup→ls.size=all.length→uJ ls all.length≤fuel →
   (∀ i o,ls.getD i false=true→all[i]?=some o→∀ x∈o.after,Region.binds .any x=true→ls.getD x.on false=true) →
   (∀ a' ls' fuel',aV D k a' L0→ls'.size=all.length→uJ ls' all.length≤fuel'→(∀ i o,ls'.getD i false=true→all[i]?=some o→∀ x∈o.after,Region.binds .any x=true→ls'.getD x.on false=true) →
    (∀ j,ls'.getD j false=(ls.getD j false||(T.map (·.1)).contains j))→(∀ q∈T,a'.tmps[q.2.1]?=some q.2.2)→(∀ d,d∉T.map (·.2.1)→a'.tmps[d]?=a.tmps[d]?)→wpAnyIn (FW rr) 0 P .any all.toArray (Q n rt e p) fuel' ls' a' w) →
   wpAnyIn (FW rr) 0 P .any all.toArray (Q n rt e p) fuel ls a w:=by
 intro T
 induction T with
 | nil =>
  intro ls L _ _ fuel a _ hA0 _ _ hsz hu hcl h;exact h a ls fuel hA0 hsz hu hcl (fun j=>by simp) (fun q hq=>by cases hq) (fun d _=>rfl)
 | cons q T ih =>
  intro ls L hTT hT fuel a hA hA0 hk0 hnd hsz hu hcl h;obtain rfl:rr=none:=hrr.resolve_left fun h=>nomatch hTT h
  cases hT with
  | @cons _ _ t d o v _ ho hd hdk hg hf hr hab hy hT =>
   have hrm:=mem_ready.1 (by simpa using hr:t∈Region.ready .any all.toArray ls);obtain ⟨h0,oi,hoi,hdeps⟩:=hrm;obtain rfl:oi=o:=Option.some.inj (hoi.symm.trans ho);have hoi':all[t]?=some oi:=by simpa using hoi
   have hlt:t < all.length:=(List.getElem?_eq_some_iff.1 hoi').1;have hls:t < ls.size:=by omega
   have hli:ls.getD t false=false:=by simp [hls] at h0 ⊢;exact h0
   have hun:=mU hlt hls hli;obtain ⟨f,rfl⟩:∃ f,fuel=f+1:=⟨fuel - 1,by omega⟩;rw [List.map_cons,List.nodup_cons] at hnd;refine wpAnyIn_take rfl ho hns hf hr (fun c a w h=>hp c d v a w (by rw [hd] at h;exact h)) ⟨.inl ⟨hg _,fun w=>hy a w hA⟩,fun w=>hab _ w⟩ ?_;rw [hd];refine ih (fun h=>nomatch hTT h) hT f (a.put (some d) v) (hA.put hdk v) ?_ (fun q hq=>hk0 q (List.mem_cons_of_mem _ hq)) hnd.2 (by simp [hsz]) (by omega) ?_ ?_
   ·refine ⟨hA0.defers,by simp [Act.put,hA0.size],fun i u hi=>?_⟩;have hne:i≠d:=fun e=>by subst e;exact hk0 (t,i,v) List.mem_cons_self u (tA hi)
    rw [dV hne];exact hA0.get i u hi
   ·intro j o' hj ho' x hx hb;by_cases hji:j=t
    ·subst hji;obtain rfl:o'=oi:=Option.some.inj (ho'.symm.trans hoi');exact getD_set_true (hdeps x hx hb)
    rw [getD_set_ne false (Ne.symm hji)] at hj;exact getD_set_true (hcl j o' hj ho' x hx hb)
   intro a' ls' fuel' hA' hsz' hu' hcl' hls' hT' hoff;refine h a' ls' fuel' hA' hsz' hu' hcl' (fun j=>?_) (fun q hq=>?_) (fun d' hd'=>?_)
   ·rw [hls' j];by_cases hjt:j=t
    ·subst hjt;simp [hls]
    rw [getD_set_ne false (Ne.symm hjt)];have e:(j==t)=false:=by simpa using hjt
    simp [e]
   ·rcases List.mem_cons.1 hq with rfl | hq
    ·rw [hoff d (by simpa using hnd.1)]
     have:Nat.blt d k=true:=hdk
     have hlt2:d < a.tmps.size:=by rw [hA.size];simpa [Nat.blt_eq] using this
     simp [Act.put,hlt2]
    exact hT' q hq
   simp only [List.map_cons,List.mem_cons,not_or] at hd';rw [hoff d' hd'.2,dV hd'.1]
theorem PK (Sg:Option (Nat→Act→aN)) {M:Prop} {w0:World} {H0:Hp} {Hs:List Hp} {σ:aN} {L:bX} {id:Nat} {all:List Oper} (m:Nat) (us:List Nat) (T:List (Nat×Nat×Value)) (hmix:P.follows .mixedOrders=true) (hp:∀ c (d:Nat) v a w,p c (a.put (some d) v) w→p c a w) (hns:Region.noSelect all.toArray=true) (hchk:mV true all m k (L.map (·.1)) (T.map (·.1))=true) (hch:fO us (eY all [])=true) (hm:Nat.ble m all.length=true) (hnd:nU (T.map (·.2.1))=true) (himm:Sg.isSome=true→∀ i o,us.contains i=true→all[i]?=some o→hY o.op=true∨fM o.op=true)
  (hT:Tk P D k all (Array.replicate all.toArray.size false) L T)
  (h:DC P rr all.toArray (eY all []) D k M w0 H0 Hs L p us T Sg (fun σ E F=>∀ K,eW F K→TG ⟨D,k,M,w0,H0⟩ (K::Hs) σ (E++L) (O P rr all.toArray n p (all.drop m))) [] σ 0 (all.take m) [] []) (hst:((all.take m).zipIdx.all fun q=>q.1.dst.isSome||us.contains q.2)=true:=by kernel_rfl) (hrr:T=[]∨rr=none:=by first | exact .inl rfl | exact .inr rfl) :
  TG ⟨D,k,M,w0,H0⟩ Hs σ L (W P rr (.region id all.toArray true) n rt e p):=fun a w hS hA=>by
 have hm':m≤all.length:=by simpa using hm
 have hok:=KR hchk;refine wpIn_region_any hmix ?_;have hS':St M w0 H0 Hs σ { w with drawn:=w.drawn+1 }:=hS.drew;have hz:∀ j,(Array.replicate all.toArray.size false).getD j false=false:=fun j=>by
  by_cases h:j < all.length
  ·simp [h]
  simp [h]
 have hkeys:∀ q∈T,∀ v,(q.2.1,v)∉L:=by
  have:∀ {T:List (Nat×Nat×Value)} {ls:Array Bool} {L':bX},Tk P D k all ls L' T→∀ q∈T,∃ o,all[q.1]?=some o∧o.dst=some q.2.1:=by
   intro T
   induction T with
   | nil=>intro _ _ _ q hq;cases hq
   | cons q T ih =>
    intro ls L' h q' hq
    cases h with
    | cons ho hd _ _ _ _ _ _ h =>
     rcases List.mem_cons.1 hq with rfl | hq
     ·exact ⟨_,by simpa using ho,hd⟩
     exact ih h q' hq
  intro q hq v;obtain ⟨o,ho,hd⟩:=this hT q hq;obtain ⟨d',hd',_,hn,_⟩:=(hok.pres q.1 o (hok.tkm q.1 (by rw [List.contains_eq_mem];exact decide_eq_true (List.mem_map.2 ⟨q,hq,rfl⟩))) ho).resolve_right fun h=>by rw [hd] at h;cases h.2.1
  obtain rfl:d'=q.2.1:=Option.some.inj (hd'.symm.trans hd);exact hn v
 refine Tk.go hrr hp hns (fun h=>h) hT _ _ hA hA hkeys (uV hnd) (by simp) ?_ ?_ ?_
 ·unfold uJ;refine Nat.le_trans List.countP_le_length ?_;simp
 ·intro i o hi;rw [hz] at hi;cases hi
 intro a' ls' fuel' hA' hsz hu hcl hls hTv _;have hfn:(fun σ E F=>∀ K,eW F K→TG ⟨D,k,M,w0,H0⟩ (K::Hs) σ (E++L) (O P rr all.toArray n p (all.drop m)))=(fun σ E F=>∀ a w K,St M w0 H0 (K::Hs) σ w→aV D k a (E++L)→eW F K→O P rr all.toArray n p (all.drop m) a w):=by
  funext σ E F;apply propext;constructor
  ·intro h a w K hS hA hF;exact h K hF a w hS hA
  intro h K hF a w hS hA;exact h a w K hS hA hF
 rw [hfn] at h;have hls2:∀ j,ls'.getD j false=!eB T j:=fun j=>by rw [hls j,hz j];simp [eB]
 refine uU (fun _ _ _ h=>h) himm hok hst hch hm' _ (fun σ E F h=>h) _ _ _ _ hsz hu hcl (.inl ⟨fun t ht=>?_,fun t ht=>?_,_,σ,σ,hS'.vis_self,hA',h.run hls2 hTv (.inl ⟨rfl,rfl⟩)⟩)
 ·rw [hls t,hz t,Bool.false_or]
  cases h:(T.map (·.1)).contains t with
  | false=>rfl
  | true=>have:=hok.tkm t h;omega
 rw [hls t,ht,Bool.or_true]
theorem uW {M:Prop} {w0:World} {H0:Hp} {Hs:List Hp} {σ:aN} {L:bX} {id:Nat} {all:List Oper} (m:Nat) (us:List Nat) (T:List (Nat×Nat×Value)) (hmix:P.follows .mixedOrders=true) (hp:∀ c (d:Nat) v a w,p c (a.put (some d) v) w→p c a w) (hns:Region.noSelect all.toArray=true) (hchk:mV true all m k (L.map (·.1)) (T.map (·.1))=true) (hch:fO us (eY all [])=true) (hm:Nat.ble m all.length=true) (hnd:nU (T.map (·.2.1))=true)
  (hT:Tk P D k all (Array.replicate all.toArray.size false) L T)
  (h:DC P rr all.toArray (eY all []) D k M w0 H0 Hs L p us T none (fun σ E F=>∀ K,eW F K→TG ⟨D,k,M,w0,H0⟩ (K::Hs) σ (E++L) (O P rr all.toArray n p (all.drop m))) [] σ 0 (all.take m) [] []) (hst:((all.take m).zipIdx.all fun q=>q.1.dst.isSome||us.contains q.2)=true:=by kernel_rfl) (hrr:T=[]∨rr=none:=by first | exact .inl rfl | exact .inr rfl) :
  TG ⟨D,k,M,w0,H0⟩ Hs σ L (W P rr (.region id all.toArray true) n rt e p):=PK none m us T hmix hp hns hchk hch hm hnd (fun h=>by cases h) hT h hst hrr
theorem UU (S:Nat→Act→aN) {M:Prop} {w0:World} {H0:Hp} {Hs:List Hp} {σ:aN} {L:bX} {id:Nat} {all:List Oper} (m:Nat) (us:List Nat) (T:List (Nat×Nat×Value)) (hmix:P.follows .mixedOrders=true) (hp:∀ c (d:Nat) v a w,p c (a.put (some d) v) w→p c a w) (hns:Region.noSelect all.toArray=true) (hchk:mV true all m k (L.map (·.1)) (T.map (·.1))=true) (hch:fO us (eY all [])=true) (hm:Nat.ble m all.length=true) (hnd:nU (T.map (·.2.1))=true) (himm:us.all (fun i=>all.toArray[i]?.all fun o=>hY o.op||fM o.op)=true)
  (hT:Tk P D k all (Array.replicate all.toArray.size false) L T)
  (h:DC P rr all.toArray (eY all []) D k M w0 H0 Hs L p us T (some S) (fun σ E F=>∀ K,eW F K→TG ⟨D,k,M,w0,H0⟩ (K::Hs) σ (E++L) (O P rr all.toArray n p (all.drop m))) [] σ 0 (all.take m) [] []) (hst:((all.take m).zipIdx.all fun q=>q.1.dst.isSome||us.contains q.2)=true:=by kernel_rfl) (hrr:T=[]∨rr=none:=by first | exact .inl rfl | exact .inr rfl) :
  TG ⟨D,k,M,w0,H0⟩ Hs σ L (W P rr (.region id all.toArray true) n rt e p):=PK (some S) m us T hmix hp hns hchk hch hm hnd (fun _ i o hi ho=>by
  have:=List.all_eq_true.1 himm i (by simpa using hi);rw [show all.toArray[i]?=some o by simpa using ho] at this
  simpa using this) hT h hst hrr
end
end Pk
