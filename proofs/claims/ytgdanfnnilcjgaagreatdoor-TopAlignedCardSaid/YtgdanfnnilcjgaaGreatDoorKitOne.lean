/-
  A proof kit of our own: frames,heaps,one law an operation.
-/
import Derived.OrdersIn
import Derived.Laws.AppendOwn
import Derived.KernelRfl
import Derived.Laws.Strings
import Derived.Laws.OwnMore
import Derived.Deep.AppendLies
import Derived.Laws.MakeOwn
import Derived.Laws.Slices
import Derived.Laws.StructEq
import Derived.Laws.Cover3
import Derived.Laws.IdiomStrings
set_option linter.all false
namespace Pk
open Go
abbrev bX:=List (Nat×Value)
def lk:bX→Nat→Option Value
 | [],_=>none
 | (i,v)::L,k=>bif Nat.beq i k then some v else lk L k
def ev (L:bX):Operand→Option Value
 | .tmp t=>lk L t
 | .const v=>some v
 | .global g=>some (.pointer (some ⟨g,0,none⟩))
 | .func f=>some (.func (.func f) #[] #[])
structure aV (D:List Deferred) (n:Nat) (a:Act) (L:bX):Prop where
 defers:a.defers=D
 size:a.tmps.size=n
 get:∀ i v,lk L i=some v→a.tmps[i]?=some v
section
variable {D:List Deferred} {n:Nat} {a:Act} {L:bX}
theorem aV.tmp (h:aV D n a L) {i:Nat} {v:Value} (hi:lk L i=some v):a.tmps.getD i undef=v:=by
 have:=h.get i v hi;simp [Array.getD_eq_getD_getElem?,this]
theorem aV.eval (h:aV D n a L) {x:Operand} {v:Value} (hx:ev L x=some v):a.eval x=v:=by
 cases x with
 | tmp t=>exact h.tmp hx
 | const c=>simpa [ev,Act.eval] using hx
 | global g=>simpa [ev,Act.eval] using hx
 | func f=>simpa [ev,Act.eval] using hx
theorem aV.put (h:aV D n a L) {d:Nat} (hd:Nat.blt d n=true) (v:Value):aV D n (a.put (some d) v) ((d,v)::L):=by
 have hd':d < n:=by simpa [Nat.blt_eq] using hd
 refine ⟨h.defers,by simp [Act.put,h.size],?_⟩;intro i u hi;simp only [Act.put];simp only [lk] at hi;by_cases e:d=i
 ·subst e;simp at hi;subst hi;simp [h.size,hd']
 have e':Nat.beq d i=false:=by
  rw [Bool.eq_false_iff];intro c;exact e (Nat.eq_of_beq_eq_true c)
 simp only [e',cond_false] at hi;rw [Array.getElem?_setIfInBounds_ne e];exact h.get i u hi
def OD (L:bX):bX→Prop
 | []=>True
 | (k,v)::r=>lk L k=some v∧OD L r
theorem OD.lk {L:bX}:∀ {L':bX},OD L L'→∀ i v,lk L' i=some v→lk L i=some v
 | [],_,i,v,h=>by simp [Pk.lk] at h
 | (k,u)::r,hs,i,v,h=>by
  simp only [Pk.lk] at h;by_cases e:k=i
  ·subst e;simp at h;subst h;exact hs.1
  have e':Nat.beq k i=false:=by
   rw [Bool.eq_false_iff];intro c;exact e (Nat.eq_of_beq_eq_true c)
  simp only [e',cond_false] at h;exact hs.2.lk i v h
theorem aV.cut (h:aV D n a L) {L':bX} (hs:OD L L'):aV D n a L':=⟨h.defers,h.size,fun i v hi=>h.get i v (hs.lk i v hi)⟩
end
def FW (r:Option Nat):Fence:={ fn:=fun _=>True,depth:=none,alive:=false,round:=r }
abbrev aP:=Act→World→Prop
def yE:List (Nat×aP)→Nat→Option aP
 | [],_=>none
 | (i,v)::L,k=>bif Nat.beq i k then some v else yE L k
def Q (n rt:aP) (e:List (Nat×aP)) (p:List PanicEntry→aP):Exit→Act→World→Prop
 | .normal,a,w=>n a w
 | .ret,a,w=>rt a w
 | .exit id,a,w=>∃ K,yE e id=some K∧K a w
 | .panic c,a,w=>p c a w
 | _,_,_=>False
def W (P:Program) (r:Option Nat) (c:Code) (n rt:aP) (e:List (Nat×aP)) (p:List PanicEntry→aP) (a:Act) (w:World):Prop :=
 c.wpIn (FW r) 0 P (Q n rt e p) a w
def O (P:Program) (r:Option Nat) (ops:Array Oper) (n:aP) (p:List PanicEntry→aP):List Oper→Act→World→Prop
 | [],a,w=>n a w
 | o::rest,a,w =>
  if Region.wanted o (yielded ops a.tmps) then o.wpIn (FW r) 0 P a w (O P r ops n p rest) (Q n (fun _ _=>False) [] p) else O P r ops n p rest (a.put o.dst undef) w
section
variable {P:Program} {r:Option Nat} {n rt:aP} {e:List (Nat×aP)} {p:List PanicEntry→aP} {a:Act} {w:World}
theorem sU {c:Code} {n' rt':aP} {e':List (Nat×aP)} {p':List PanicEntry→aP} (hn:∀ a w,n a w→n' a w) (hr:∀ a w,rt a w→rt' a w)
  (he:∀ id K a w,yE e id=some K→K a w→∃ K',yE e' id=some K'∧K' a w) (hp:∀ c a w,p c a w→p' c a w) (h:W P r c n rt e p a w):W P r c n' rt' e' p' a w:=by
 refine wpIn_mono h ?_;intro x a w hx
 cases x with
 | normal=>exact hn _ _ hx
 | ret=>exact hr _ _ hx
 | exit id=>obtain ⟨K,hK,hx⟩:=hx;exact he _ _ _ _ hK hx
 | panic c=>exact hp _ _ _ hx
 | goto l=>exact hx
 | outgrown=>exact hx
theorem OE {x y:Code} (h:W P r x (fun a w=>W P r y n rt e p a w) rt e p a w):W P r (.seq x y) n rt e p a w:=by
 refine wpIn_seq (wpIn_mono h ?_);intro z a w hz;cases z <;> exact hz
theorem JQ (h:n a w):W P r .skip n rt e p a w:=wpIn_skip h
theorem OF (h:rt a w):W P r .ret n rt e p a w:=wpIn_ret h
theorem FY {l:Nat} (h:n a w):W P r (.label l) n rt e p a w:=wpIn_label h
theorem JR {id:Nat} {K:aP} (hK:yE e id=some K) (h:K a w):W P r (.exit id) n rt e p a w:=wpIn_exit ⟨K,hK,h⟩
theorem FZ {id:Nat} {c:Code} (h:W P r c n rt ((id,n)::e) p a w):W P r (.block id c) n rt e p a w:=by
 refine wpIn_block (wpIn_mono h ?_);intro z a w hz
 cases z with
 | exit k =>
  obtain ⟨K,hK,hz⟩:=hz;simp only [yE] at hK;by_cases e':id=k
  ·subst e';simp at hK;subst hK;simp only [Exit.inBlock,if_true];exact hz
  have h1:Nat.beq id k=false:=by
   rw [Bool.eq_false_iff];intro c;exact e' (Nat.eq_of_beq_eq_true c)
  simp only [h1,cond_false] at hK;simp only [Exit.inBlock,if_neg (fun h:k=id=>e' h.symm)];exact ⟨K,hK,hz⟩
 | normal=>exact hz
 | ret=>exact hz
 | panic c=>exact hz
 | goto l=>exact hz
 | outgrown=>exact hz
theorem IX {p:Nat→Prop} (h:∃ m,p m):∃ m,p m∧∀ k,k < m→¬p k:=by
 obtain ⟨m,hm⟩:=h
 induction m using Nat.strongRecOn with
 | _ m ih =>
  by_cases hx:∃ k,k < m∧p k
  ·obtain ⟨k,hk,hp⟩:=hx;exact ih k hk hp
  exact ⟨m,hm,fun k hk hp=>hx ⟨k,hk,hp⟩⟩
open Classical in
theorem JS {c:Code} (I:Nat→aP) {j:Nat} (h0:I j a w) (hI:∀ j a w,I j a w→W P r c (fun a w=>∃ j',j' < j∧I j' a w) rt e p a w):W P r (.loop c) n rt e p a w:=by
 let μ:Act→World→Nat:=fun a w=>if h:∃ m,I m a w then Classical.choose (IX h) else 0
 have hμ:∀ a w,(∃ m,I m a w)→I (μ a w) a w∧∀ k,k < μ a w→¬I k a w:=by
  intro a w h;simp only [μ,dif_pos h];exact Classical.choose_spec (IX h)
 refine wpIn_loop (fun a w=>∃ m,I m a w) μ ⟨j,h0⟩ ?_;intro a w h;refine wpIn_mono (hI _ a w (hμ a w h).1) ?_;intro z a' w' hz
 cases z with
 | normal =>
  obtain ⟨j',hj,hi⟩:=hz;refine ⟨⟨j',hi⟩,?_⟩;have:=(hμ a' w' ⟨j',hi⟩).2;rcases Nat.lt_or_ge j' (μ a' w') with h1 | h1
  ·exact absurd hi (this _ h1)
  omega
 | ret=>exact hz
 | exit id=>exact hz
 | panic c=>exact hz
 | goto l=>exact hz
 | outgrown=>exact hz
theorem sV {c:Operand} {x y:Code} {t:Bool} {D:List Deferred} {k:Nat} {L:bX} (hA:aV D k a L) (hc:ev L c=some (.bool t)) (h1:t=true→W P r x n rt e p a w) (h2:t=false→W P r y n rt e p a w):W P r (.cond c x y) n rt e p a w :=
 wpIn_cond_split (hA.eval hc) h1 h2
theorem UA {c:Operand} {x y:Code} {q:Prop} [Decidable q] {D:List Deferred} {k:Nat} {L:bX} (hA:aV D k a L) (hc:ev L c=some (.bool (decide q))) (h1:q→W P r x n rt e p a w) (h2:¬q→W P r y n rt e p a w):W P r (.cond c x y) n rt e p a w :=
 sV hA hc (fun h=>h1 (of_decide_eq_true h)) (fun h=>h2 (of_decide_eq_false h))
theorem UB {ops:Array Oper} (l:List Oper):∀ k,(∀ j,l[j]?=ops[k+j]?)→∀ a w,O P r ops n p l a w→wpOpsIn (FW r) 0 P ops (Q n (fun _ _=>False) [] p) (List.range' k l.length) a w:=by
 induction l with
 | nil=>intro k _ a w h;exact h
 | cons o l ih =>
  intro k h a w ho;have h0:ops[k]?=some o:=by simpa using (h 0).symm
  have ih':=ih (k+1) (fun j=>by have:=h (j+1);simpa [Nat.add_assoc,Nat.add_comm 1 j] using this);simp only [List.length_cons,List.range'_succ,wpOpsIn,h0];simp only [O] at ho
  split
  ·rename_i hw
   rw [if_pos hw] at ho;exact Oper.wpIn_mono ih' ho
  rename_i hw
  rw [if_neg hw] at ho;exact ⟨fun _ _=>trivial,ih' _ _ ho⟩
theorem BL {id:Nat} {l:List Oper} (h:O P r l.toArray n p l a w):W P r (.region id l.toArray false) n rt e p a w:=by
 have:=UB (ops:=l.toArray) l 0 (by simp) a w h;refine wpIn_mono (Q:=Q n (fun _ _=>False) [] p) (wpIn_region ?_) ?_
 ·rw [List.range_eq_range'];simpa using this
 intro z a w hz
 cases z with
 | exit id=>obtain ⟨K,hK,_⟩:=hz;simp [yE] at hK
 | normal=>exact hz
 | panic c=>exact hz
 | goto l=>exact hz
 | outgrown=>exact hz
 | ret=>exact hz.elim
variable {D:List Deferred} {k:Nat} {L:bX} {ops:Array Oper} {rest:List Oper} {d:Nat} {ty:TypeId} {pos:String} {af:Array Edge}
theorem cO {o:Oper} {v:Value} {w':World} (hg:o.guard=none) (hd:∀ c,o.op≠.defer c) (hr:(execOp a.eval o).run P w=.ok (.value v) w') (h:O P r ops n p rest (a.put o.dst v) w'):O P r ops n p (o::rest) a w:=by
 simp only [O,Region.wanted,hg,if_true];refine ⟨fun _ _=>trivial,?_⟩;rw [Oper.semAt_eq _ _ _ hd,hr];exact h
theorem nK {o:Oper} {w':World} (hg:o.guard=none) (hd:∀ c,o.op≠.defer c) (hr:(execOp a.eval o).run P w=.ok .skip w') (h:O P r ops n p rest (a.put o.dst undef) w'):O P r ops n p (o::rest) a w:=by
 simp only [O,Region.wanted,hg,if_true];refine ⟨fun _ _=>trivial,?_⟩;rw [Oper.semAt_eq _ _ _ hd,hr];exact h
theorem mK {o:Oper} {f:FuncId} {args:Array Value} {w':World} {R:Ending→World→Prop} (hg:o.guard=none) (hd:∀ c,o.op≠.defer c) (hr:(execOp a.eval o).run P w=.ok (.enter f args) w')
  (hc:Calls P f args w' R) (h1:∀ v w'',R (.returned v) w''→O P r ops n p rest (a.put o.dst v) w'') (h2:∀ c w'',R (.panicked c) w''→p c a w'') (h3:∀ w'',¬R .outgrown w''):O P r ops n p (o::rest) a w:=by
 simp only [O,Region.wanted,hg,if_true];refine ⟨fun _ _=>trivial,?_⟩;rw [Oper.semAt_eq _ _ _ hd,hr];refine ⟨fun h=>by simp [FW] at h,?_⟩;have hw:CallsIn (FW r) 0 P f args w' R:=(callsIn_wide (n:=0)).2 hc;refine hw.mono ?_;intro e w'' he
 cases e with
 | returned v=>exact h1 v w'' he
 | panicked c=>exact h2 c w'' he
 | outgrown=>exact absurd he (h3 w'')
theorem UC {op:Op} {dst:Option Nat} {j dj:Nat} {wt:Bool} (hA:aV D k a L) (hj:(ops[j]?).bind (·.dst)=some dj) (hb:lk L dj=some (.bool wt))
  (h:O P r ops n p (⟨dst,op,ty,pos,af,none⟩::rest) a w):O P r ops n p (⟨dst,op,ty,pos,af,some (j,wt)⟩::rest) a w:=by
 have hy:yielded ops a.tmps j=some wt:=by simp [yielded,hj,hA.get _ _ hb]
 simp only [O,Region.wanted,hy,beq_self_eq_true,if_true] at h ⊢;exact h
theorem OH {op:Op} {j dj:Nat} {wt b:Bool} (hA:aV D k a L) (hj:(ops[j]?).bind (·.dst)=some dj) (hb:lk L dj=some (.bool b)) (hne:b=!wt) (hd:Nat.blt d k=true)
  (h:∀ a,aV D k a ((d,undef)::L)→O P r ops n p rest a w):O P r ops n p (⟨some d,op,ty,pos,af,some (j,wt)⟩::rest) a w:=by
 have hy:yielded ops a.tmps j=some b:=by simp [yielded,hj,hA.get _ _ hb]
 subst hne;simp only [O,Region.wanted,hy];rw [if_neg (by cases wt <;> simp)];exact h _ (hA.put hd _)
theorem JT {x:Operand} {v:Value} (hA:aV D k a L) (hd:Nat.blt d k=true) (hx:ev L x=some v) (h:∀ a,aV D k a ((d,v)::L)→O P r ops n p rest a w) :
  O P r ops n p (⟨some d,.move x,ty,pos,af,none⟩::rest) a w :=
 cO rfl (fun _ h=>by cases h) (w':=w) (v:=v) (by simp [execOp,hA.eval hx]) (h _ (hA.put hd v))
theorem BM {x:Operand} {v:Value} (hA:aV D k a L) (hd:Nat.blt d k=true) (hx:ev L x=some v) (h:∀ a,aV D k a ((d,v)::L)→O P r ops n p rest a w) :
  O P r ops n p (⟨some d,.assign x,ty,pos,af,none⟩::rest) a w :=
 cO rfl (fun _ h=>by cases h) (w':=w) (v:=v) (by simp [execOp,hA.eval hx]) (h _ (hA.put hd v))
theorem BN {c x y:Operand} {b:Bool} {v:Value} (hA:aV D k a L) (hd:Nat.blt d k=true) (hc:ev L c=some (.bool b)) (hv:ev L (bif b then x else y)=some v) (h:∀ a,aV D k a ((d,v)::L)→O P r ops n p rest a w) :
  O P r ops n p (⟨some d,.pick c x y,ty,pos,af,none⟩::rest) a w :=
 cO rfl (fun _ h=>by cases h) (w':=w) (v:=v) (by cases b <;> simp [execOp,hA.eval hc,asBool,cond] at hv ⊢ <;> simp [hA.eval hv]) (h _ (hA.put hd v))
end
end Pk
namespace Pk
open Go
abbrev Hp:=Nat→Option Obj
def hp (w:World):Hp:=fun b=>w.heap[b]?
def Hp.le (H K:Hp):Prop:=∀ b o,H b=some o→K b=some o
theorem Hp.le.refl (H:Hp):H.le H:=fun _ _ h=>h
theorem Hp.le.trans {A B C:Hp} (h:A.le B) (k:B.le C):A.le C:=fun b o x=>k b o (h b o x)
def bC (H:Hp) (ad:Addr) (cs:List Value):Prop :=
 ad.spot=none∧∀ j v,cs[j]?=some v→∃ c ty fz,H ad.block=some (.cells c ty fz)∧c[ad.off+j]?=some v
theorem bC.mono {H K:Hp} {ad:Addr} {cs:List Value} (h:bC H ad cs) (hk:H.le K):bC K ad cs :=
 ⟨h.1,fun j v hv=>let ⟨c,ty,fz,h1,h2⟩:=h.2 j v hv;⟨c,ty,fz,hk _ _ h1,h2⟩⟩
theorem dX {ad:Addr} (h:ad.spot=none) (i:Nat):ad.add i=⟨ad.block,ad.off+i,none⟩:=by
 cases ad with
 | mk b o s =>
  simp at h;subst h;unfold Addr.add
  split
  ·rename_i e;subst e;rfl
  rfl
theorem bC.drop {H:Hp} {ad:Addr} {cs:List Value} (h:bC H ad cs) (i:Nat):bC H (ad.add i) (cs.drop i):=by
 rw [dX h.1];refine ⟨rfl,fun j v hv=>?_⟩;obtain ⟨c,ty,fz,h1,h2⟩:=h.2 (i+j) v (by rw [List.getElem?_drop] at hv;exact hv);exact ⟨c,ty,fz,h1,by rw [← h2];simp [Nat.add_assoc]⟩
theorem bC.take {H:Hp} {ad:Addr} {cs:List Value} (h:bC H ad cs) (i:Nat):bC H ad (cs.take i) :=
 ⟨h.1,fun j v hv=>h.2 j v (by
  rw [List.getElem?_take] at hv
  split at hv
  ·exact hv
  cases hv)⟩
theorem bC.cell {w:World} {ad:Addr} {cs:List Value} (h:bC (hp w) ad cs) {j:Nat} {v:Value} (hv:cs[j]?=some v):w.cell? (ad.add j)=some v:=by
 obtain ⟨c,ty,fz,h1,h2⟩:=h.2 j v hv;rw [dX h.1];unfold World.cell?;simp only [hp] at h1;simp [h1,h2]
def Sl {α:Type} (R:Hp→List Value→α→Prop) (size:Nat) (H:Hp) (ad:Option Addr) (cap:Nat) (l:List α):Prop :=
 (l.length≤cap∧cap≤9223372036854775807)∧∀ (i:Nat) (x:α),l[i]?=some x→∃ p cs,ad=some p∧p.spot=none∧cs.length=size∧bC H (p.add (i*size)) cs∧R H cs x
def lA {α:Type} (R:Hp→List Value→α→Prop):Prop:=∀ H K cs x,Hp.le H K→R H cs x→R K cs x
theorem Sl.mono {α:Type} {R:Hp→List Value→α→Prop} (hR:lA R) {size:Nat} {H K:Hp} {ad:Option Addr} {cap:Nat} {l:List α} (h:Sl R size H ad cap l) (hk:H.le K):Sl R size K ad cap l:=by
 obtain ⟨hc,h⟩:=h;refine ⟨hc,fun i x hx=>?_⟩;obtain ⟨p,cs,h1,h0,h2,h3,h4⟩:=h i x hx;exact ⟨p,cs,h1,h0,h2,h3.mono hk,hR _ _ _ _ hk h4⟩
theorem Sl.nil {α:Type} (R:Hp→List Value→α→Prop) (size:Nat) (H:Hp) (ad:Option Addr) (cap:Nat) (h:cap≤9223372036854775807):Sl R size H ad cap []:=⟨⟨Nat.zero_le _,h⟩,fun i x h=>by simp at h⟩
theorem Sl.len {α:Type} {R:Hp→List Value→α→Prop} {size:Nat} {H:Hp} {ad:Option Addr} {cap:Nat} {l:List α} (h:Sl R size H ad cap l):l.length≤9223372036854775807:=Nat.le_trans h.1.1 h.1.2
def aG {α:Type} (enc:α→List Value):Hp→List Value→α→Prop:=fun _ cs x=>cs=enc x
theorem aG.mono {α:Type} (enc:α→List Value):lA (aG enc):=fun _ _ _ _ _ h=>h
structure iT (M:Prop) (w w':World):Prop where
 os:w'.os=w.os
 tape:w'.tape=w.tape
 output:w'.output=w.output
 size:w.heap.size≤w'.heap.size
 keep:∀ b,b < w.heap.size→w'.heap[b]?=w.heap[b]?
 drawn:M→w.drawn≤w'.drawn
theorem iT.refl (M:Prop) (w:World):iT M w w:=⟨rfl,rfl,rfl,Nat.le_refl _,fun _ _=>rfl,fun _=>Nat.le_refl _⟩
theorem iT.trans {M:Prop} {a b c:World} (h:iT M a b) (k:iT M b c):iT M a c :=
 ⟨k.os.trans h.os,k.tape.trans h.tape,k.output.trans h.output,Nat.le_trans h.size k.size,fun i hi=>(k.keep i (Nat.lt_of_lt_of_le hi h.size)).trans (h.keep i hi),fun q=>Nat.le_trans (h.drawn q) (k.drawn q)⟩
theorem iT.alloc (M:Prop) (w:World) (o:Obj):iT M w (w.alloc o):=⟨rfl,rfl,rfl,by simp,fun b hb=>by
 show (w.heap.push o)[b]?=_
 rw [Array.getElem?_push,if_neg (by omega)],fun _=>Nat.le_refl _⟩
theorem iT.drew (M:Prop) (w:World):iT M w w.drew:=⟨rfl,rfl,rfl,Nat.le_refl _,fun _ _=>rfl,fun _=>Nat.le_succ _⟩
structure rL (w w':World) (row:Option Nat):Prop where
 by_:w.grownBy w' row
 drawn:w.drawn≤w'.drawn
theorem iT.le {M:Prop} {w w':World} (h:iT M w w'):(hp w).le (hp w'):=fun b o hb=>by
 have hlt:b < w.heap.size:=(Array.getElem?_eq_some_iff.1 hb).1;exact (h.keep b hlt).trans hb
def grow (H:Hp) (w w':World):Hp:=fun b=>if b < w.heap.size then H b else w'.heap[b]?
inductive aR where
 | blk (b:Nat) (o:Obj)
 | row (ad:Option Addr) (cap:Nat) (e:TypeId) (size n:Nat) (xs:List Value)
 | any (ad:Option Addr) (cap:Nat) (e:TypeId) (size n:Nat) (Φ:List Value→Prop)
def aR.foot:aR→Option Nat
 | .blk b _=>some b
 | .row ad _ _ _ _ _=>ad.map (·.block)
 | .any ad _ _ _ _ _=>ad.map (·.block)
def aR.holds (w:World):aR→Prop
 | .blk b o=>w.heap[b]?=some o
 | .row ad cap e size n xs=>w.ownsRow 0 e size (.slice ad n cap) n xs
 | .any ad cap e size n Φ=>∃ xs,Φ xs∧w.ownsRow 0 e size (.slice ad n cap) n xs
theorem aR.lt {w:World} {x:aR} (h:x.holds w) {b:Nat} (hb:x.foot=some b):b < w.heap.size:=by
 cases x with
 | blk b' o =>
  simp only [aR.foot,Option.some.injEq] at hb;subst hb;exact (Array.getElem?_eq_some_iff.1 h).1
 | row ad cap e size n xs =>
  refine (World.ownsRow.lt h b ?_).2
  cases ad with
  | none=>simp [aR.foot] at hb
  | some p=>simpa [aR.foot,Value.ownBlock] using hb
 | any ad cap e size n Φ =>
  obtain ⟨xs,_,h⟩:=h;refine (World.ownsRow.lt h b ?_).2
  cases ad with
  | none=>simp [aR.foot] at hb
  | some p=>simpa [aR.foot,Value.ownBlock] using hb
theorem uD {w w':World} {ad:Option Addr} {cap:Nat} {e:TypeId} {size n:Nat} {xs:List Value} (h:w.ownsRow 0 e size (.slice ad n cap) n xs) (hk:∀ b,ad.map (·.block)=some b→w'.heap[b]?=w.heap[b]?):w'.ownsRow 0 e size (.slice ad n cap) n xs:=by
 refine ⟨h.1,?_⟩;rcases h.2 with hn | ⟨g,cap',cur,hv,hb,hgg,rest⟩
 ·exact .inl hn
 simp only [Value.slice.injEq] at hv;obtain ⟨rfl,_,rfl⟩:=hv;exact .inr ⟨g,_,cur,rfl,hb,(hk g rfl).trans hgg,rest⟩
theorem aR.kept {w w':World} {x:aR} (h:x.holds w) (hk:∀ b,x.foot=some b→w'.heap[b]?=w.heap[b]?):x.holds w':=by
 cases x with
 | blk b o=>exact (hk b rfl).trans h
 | row ad cap e size n xs=>exact uD h hk
 | any ad cap e size n Φ =>
  obtain ⟨xs,hx,h⟩:=h;exact ⟨xs,hx,uD h hk⟩
abbrev aN:=List (Nat×aR)
def cE:aN→Nat→Option aR
 | [],_=>none
 | (i,x)::σ,k=>bif Nat.beq i k then some x else cE σ k
def dY:aN→Nat→aR→aN
 | [],_,_=>[]
 | (i,x)::σ,k,y=>bif Nat.beq i k then (i,y)::σ else (i,x)::dY σ k y
def fK:aN→Nat→aN
 | [],_=>[]
 | (i,x)::σ,k=>bif Nat.beq i k then σ else (i,x)::fK σ k
def kB (σ:aN) (b:Nat):Prop:=∃ i x,(i,x)∈σ∧x.foot=some b
def apart (x y:aR):Prop:=∀ b,x.foot=some b→y.foot≠some b
theorem fL (k:Nat):Nat.beq k k=true:=Nat.beq_refl k
theorem dW {i k:Nat} (h:i≠k):Nat.beq i k=false:=by rw [Bool.eq_false_iff];intro c;exact h (Nat.eq_of_beq_eq_true c)
theorem eO:∀ {σ:aN} {k:Nat} {x:aR},cE σ k=some x→(k,x)∈σ
 | [],k,x,h=>by simp [cE] at h
 | (i,y)::σ,k,x,h=>by
  by_cases e:i=k
  ·subst e;simp [cE] at h;subst h;exact List.mem_cons_self
  simp only [cE,dW e,cond_false] at h;exact List.mem_cons_of_mem _ (eO h)
theorem mL:∀ {σ:aN} {k:Nat} {x y:aR} {i:Nat} {z:aR},cE σ k=some x→(i,z)∈dY σ k y→z=y∨(i,z)∈σ
 | [],k,x,y,i,z,h,hm=>by simp [cE] at h
 | (j,u)::σ,k,x,y,i,z,h,hm=>by
  by_cases e:j=k
  ·subst e;simp only [dY,fL,cond_true,List.mem_cons,Prod.mk.injEq] at hm;rcases hm with ⟨_,rfl⟩ | hm
   ·exact .inl rfl
   exact .inr (List.mem_cons_of_mem _ hm)
  simp only [dY,dW e,cond_false,List.mem_cons,Prod.mk.injEq] at hm;simp only [cE,dW e,cond_false] at h;rcases hm with ⟨rfl,rfl⟩ | hm
  ·exact .inr List.mem_cons_self
  rcases mL h hm with h1 | h1
  ·exact .inl h1
  exact .inr (List.mem_cons_of_mem _ h1)
def iD:aN→Prop
 | []=>True
 | (_,x)::σ=>(∀ i y,(i,y)∈σ→apart x y)∧iD σ
theorem iE {x y:aR} (h:apart x y):apart y x:=fun b hb hx=>h b hx hb
theorem iD.set:∀ {σ:aN} {k:Nat} {x y:aR},iD σ→cE σ k=some x→(∀ i z,(i,z)∈σ→apart x z→apart y z)→iD (dY σ k y)
 | [],k,x,y,_,h,_=>by simp [cE] at h
 | (j,u)::σ,k,x,y,ha,h,hy=>by
  by_cases e:j=k
  ·subst e;simp [cE] at h;subst h;simp only [dY,fL,cond_true];exact ⟨fun i z hz=>hy i z (List.mem_cons_of_mem _ hz) (ha.1 i z hz),ha.2⟩
  simp only [dY,dW e,cond_false];simp only [cE,dW e,cond_false] at h;refine ⟨fun i z hz=>?_,iD.set ha.2 h (fun i z hz=>hy i z (List.mem_cons_of_mem _ hz))⟩;rcases mL h hz with rfl | h1
  ·exact iE (hy j u List.mem_cons_self (iE (ha.1 k x (eO h))))
  exact ha.1 i z h1
theorem pP:∀ {σ:aN} {k:Nat} {x y:aR},iD σ→cE σ k=some x→∀ i z,(i,z)∈dY σ k y→z=y∨apart x z
 | [],k,x,y,_,h,_,_,_=>by simp [cE] at h
 | (j,u)::σ,k,x,y,ha,h,i,z,hz=>by
  by_cases e:j=k
  ·subst e;simp [cE] at h;subst h;simp only [dY,fL,cond_true,List.mem_cons,Prod.mk.injEq] at hz;rcases hz with ⟨_,rfl⟩ | hz
   ·exact .inl rfl
   exact .inr (ha.1 i z hz)
  simp only [dY,dW e,cond_false,List.mem_cons,Prod.mk.injEq] at hz;simp only [cE,dW e,cond_false] at h;rcases hz with ⟨rfl,rfl⟩ | hz
  ·exact .inr (iE (ha.1 k x (eO h)))
  exact pP ha.2 h i z hz
theorem mM:∀ {σ:aN} {k:Nat} {i:Nat} {z:aR},(i,z)∈fK σ k→(i,z)∈σ
 | [],k,i,z,h=>by simp [fK] at h
 | (j,u)::σ,k,i,z,h=>by
  by_cases e:j=k
  ·subst e;simp only [fK,fL,cond_true] at h;exact List.mem_cons_of_mem _ h
  simp only [fK,dW e,cond_false,List.mem_cons,Prod.mk.injEq] at h;rcases h with ⟨rfl,rfl⟩ | h
  ·exact List.mem_cons_self
  exact List.mem_cons_of_mem _ (mM h)
theorem iD.del:∀ {σ:aN} {k:Nat},iD σ→iD (fK σ k)
 | [],_,_=>trivial
 | (j,u)::σ,k,h=>by
  by_cases e:j=k
  ·subst e;simp only [fK,fL,cond_true];exact h.2
  simp only [fK,dW e,cond_false];exact ⟨fun i z hz=>h.1 i z (mM hz),h.2.del⟩
theorem pQ:∀ {σ:aN} {k:Nat} {x:aR},iD σ→cE σ k=some x→∀ i z,(i,z)∈fK σ k→apart x z
 | [],k,x,_,h,_,_,_=>by simp [cE] at h
 | (j,u)::σ,k,x,ha,h,i,z,hz=>by
  by_cases e:j=k
  ·subst e;simp [cE] at h;subst h;simp only [fK,fL,cond_true] at hz;exact ha.1 i z hz
  simp only [fK,dW e,cond_false,List.mem_cons,Prod.mk.injEq] at hz;simp only [cE,dW e,cond_false] at h;rcases hz with ⟨rfl,rfl⟩ | hz
  ·exact iE (ha.1 k x (eO h))
  exact pQ ha.2 h i z hz
open Classical in
noncomputable def hQ (w0:World) (H0:Hp) (σ:aN) (w:World):Hp:=fun b=>if kB σ b then none else if b < w0.heap.size then H0 b else w.heap[b]?
structure St (M:Prop) (w0:World) (H0:Hp) (Hs:List Hp) (σ:aN) (w:World):Prop where
 h0:H0.le (hp w0)
 ext:iT M w0 w
 le:∀ H,H∈Hs→H.le (hQ w0 H0 σ w)
 own:∀ i x,(i,x)∈σ→x.holds w∧∀ b,x.foot=some b→w0.heap.size≤b
 apart:iD σ
section
variable {M:Prop} {w0:World} {H0:Hp} {Hs:List Hp} {σ:aN} {w:World}
theorem St.start (M:Prop) (w:World) {H:Hp} (h:H.le (hp w)):St M w H [H] [] w :=
 ⟨h,iT.refl _ _,fun K hK=>by
  simp at hK;subst hK;intro b o hb;have hlt:b < w.heap.size:=(Array.getElem?_eq_some_iff.1 (h b o hb)).1
  simp [hQ,kB,hlt,hb],fun i x hx=>by simp at hx,trivial⟩
theorem St.vis_le (h:St M w0 H0 Hs σ w):(hQ w0 H0 σ w).le (hp w):=fun b o hb=>by
 unfold hQ at hb
 split at hb
 ·cases hb
 split at hb
 ·rename_i hlt
  exact (h.ext.keep b hlt).trans (h.h0 b o hb)
 exact hb
theorem St.at (h:St M w0 H0 Hs σ w) (i:Nat) {H:Hp} (hi:Hs[i]?=some H):H.le (hQ w0 H0 σ w):=h.le H (List.mem_of_getElem? hi)
theorem St.hp (h:St M w0 H0 Hs σ w) (i:Nat) {H:Hp} (hi:Hs[i]?=some H):H.le (hp w):=(h.at i hi).trans h.vis_le
theorem St.get (h:St M w0 H0 Hs σ w) {t:Nat} {x:aR} (hx:cE σ t=some x):x.holds w:=(h.own t x (eO hx)).1
theorem St.vis_grow (_h:St M w0 H0 Hs σ w):(hQ w0 H0 σ w).le (grow H0 w0 w):=fun b o hb=>by
 unfold hQ at hb
 split at hb
 ·cases hb
 exact hb
theorem St.grow (h:St M w0 H0 Hs σ w) (i:Nat) {H:Hp} (hi:Hs[i]?=some H):H.le (grow H0 w0 w):=(h.at i hi).trans h.vis_grow
theorem St.step (h:St M w0 H0 Hs σ w) {t:Nat} {x y:aR} (hx:cE σ t=some x) {w':World} (hg:rL w w' x.foot) (hy:y.holds w') (hf:∀ b,y.foot=some b→x.foot=some b∨w.heap.size≤b) :
  St M w0 H0 Hs (dY σ t y) w':=by
 have hw:=hg.by_;have hxm:=eO hx;have hxo:=h.own t x hxm;have hsz:=hw.size;have hyM:∀ b,y.foot=some b→w0.heap.size≤b:=fun b hb=>by
  rcases hf b hb with h1 | h1
  ·exact hxo.2 b h1
  exact Nat.le_trans h.ext.size h1
 have hext:iT M w0 w':=by
  refine ⟨hw.os.trans h.ext.os,hw.tape.trans h.ext.tape,hw.output.trans h.ext.output,Nat.le_trans h.ext.size hw.size,fun b hb=>?_,fun q=>Nat.le_trans (h.ext.drawn q) hg.drawn⟩;refine (hw.block b (Nat.lt_of_lt_of_le hb h.ext.size) ?_).trans (h.ext.keep b hb);intro e;have:=hxo.2 b e.symm;omega
 refine ⟨h.h0,hext,?_,?_,?_⟩
 ·intro H hH b o hb;have hb1:=h.le H hH b o hb;unfold hQ at hb1 ⊢
  split at hb1
  ·cases hb1
  rename_i hnf
  have hne:some b≠x.foot:=fun e=>hnf ⟨t,x,hxm,e.symm⟩;have hnf':¬kB (dY σ t y) b:=by
   rintro ⟨i,z,hz,hzf⟩;rcases mL hx hz with rfl | h1
   ·rcases hf b hzf with h2 | h2
    ·exact hne h2.symm
    split at hb1
    ·rename_i hlt;have:=h.ext.size;omega
    have:=(Array.getElem?_eq_some_iff.1 hb1).1;omega
   exact hnf ⟨i,z,h1,hzf⟩
  rw [if_neg hnf']
  split at hb1
  ·rename_i hlt;rw [if_pos hlt];exact hb1
  rename_i hlt
  rw [if_neg hlt];have hlt':b < w.heap.size:=(Array.getElem?_eq_some_iff.1 hb1).1;exact (hw.block b hlt' hne).trans hb1
 ·intro i z hz;rcases pP h.apart hx i z hz with rfl | hap
  ·exact ⟨hy,hyM⟩
  rcases mL hx hz with rfl | hzm
  ·exact ⟨hy,hyM⟩
  refine ⟨aR.kept (h.own i z hzm).1 (fun b hb=>hw.block b (aR.lt (h.own i z hzm).1 hb) (fun e=>hap b e.symm hb)),(h.own i z hzm).2⟩
 refine iD.set h.apart hx ?_;intro i z hz hap b hyb hzb;rcases hf b hyb with h1 | h1
 ·exact hap b h1 hzb
 have:=aR.lt (h.own i z hz).1 hzb;omega
theorem St.ext' (h:St M w0 H0 Hs σ w) {w':World} (hw:iT M w w'):St M w0 H0 Hs σ w':=by
 refine ⟨h.h0,h.ext.trans hw,?_,fun i x hx=>⟨aR.kept (h.own i x hx).1 (fun b hb=>hw.keep b (aR.lt (h.own i x hx).1 hb)),(h.own i x hx).2⟩,h.apart⟩;intro H hH b o hb;have hb1:=h.le H hH b o hb;unfold hQ at hb1 ⊢
 split at hb1
 ·cases hb1
 rename_i hnf
 rw [if_neg hnf]
 split at hb1
 ·rename_i hlt;rw [if_pos hlt];exact hb1
 rename_i hlt;rw [if_neg hlt];exact hw.le b o hb1
theorem St.new (h:St M w0 H0 Hs σ w) {w':World} (hw:iT M w w'):St M w0 H0 (Pk.grow (hQ w0 H0 σ w) w w'::Hs) σ w':=by
 have h':=h.ext' hw;refine ⟨h'.h0,h'.ext,?_,h'.own,h'.apart⟩;intro H hH;rcases List.mem_cons.1 hH with rfl | hH
 ·intro b o hb;unfold Pk.grow at hb
  split at hb
  ·rename_i hlt
   unfold hQ at hb ⊢
   split at hb
   ·cases hb
   rename_i hnf
   rw [if_neg hnf]
   split at hb
   ·rename_i hlt;rw [if_pos hlt];exact hb
   rename_i hlt;rw [if_neg hlt];exact hw.le b o hb
  rename_i hlt
  unfold hQ;have hnf:¬kB σ b:=by
   rintro ⟨i,x,hx,hf⟩;exact hlt (aR.lt (h.own i x hx).1 hf)
  rw [if_neg hnf,if_neg (by have:=h.ext.size;omega)];exact hb
 exact h'.le H hH
theorem St.add (h:St M w0 H0 Hs σ w) {w':World} (hw:iT M w w') (t:Nat) {x:aR} (hx:x.holds w') (hf:∀ b,x.foot=some b→w.heap.size≤b):St M w0 H0 Hs ((t,x)::σ) w':=by
 have h':=h.ext' hw;refine ⟨h'.h0,h'.ext,?_,?_,?_⟩
 ·intro H hH b o hb;have hb0:=h.le H hH b o hb;have hb1:=h'.le H hH b o hb;unfold hQ at hb0 hb1 ⊢
  split at hb1
  ·cases hb1
  rename_i hnf
  have hnf':¬kB ((t,x)::σ) b:=by
   rintro ⟨i,z,hz,hzf⟩;rcases List.mem_cons.1 hz with hz | hz
   ·simp only [Prod.mk.injEq] at hz;obtain ⟨rfl,rfl⟩:=hz;have:=hf b hzf;rw [if_neg hnf] at hb0
    split at hb0
    ·rename_i hlt;have:=h.ext.size;omega
    have:=(Array.getElem?_eq_some_iff.1 hb0).1;omega
   exact hnf ⟨i,z,hz,hzf⟩
  rw [if_neg hnf'];exact hb1
 ·intro i z hz;rcases List.mem_cons.1 hz with hz | hz
  ·simp only [Prod.mk.injEq] at hz;obtain ⟨rfl,rfl⟩:=hz;exact ⟨hx,fun b hb=>Nat.le_trans h.ext.size (hf b hb)⟩
  exact h'.own i z hz
 refine ⟨fun i y hy b hb hyb=>?_,h'.apart⟩;have h1:=hf b hb;have h2:=aR.lt (h.own i y hy).1 hyb;omega
theorem St.rest (h:St M w0 H0 Hs σ w) {t:Nat}:St M w0 H0 (hQ w0 H0 (fK σ t) w::Hs) (fK σ t) w:=by
 refine ⟨h.h0,h.ext,?_,fun i z hz=>h.own i z (mM hz),h.apart.del⟩;intro H hH;rcases List.mem_cons.1 hH with rfl | hH
 ·exact Hp.le.refl _
 refine (h.le H hH).trans ?_;intro b o hb;unfold hQ at hb ⊢
 split at hb
 ·cases hb
 rename_i hnf
 rw [if_neg (fun ⟨i,z,hz,hf⟩=>hnf ⟨i,z,mM hz,hf⟩)];exact hb
theorem St.rest_vis (h:St M w0 H0 Hs σ w) {t:Nat} {x:aR} (hx:cE σ t=some x) (hM:∀ b,x.foot=some b→w0.heap.size≤b) {b:Nat} {o:Obj} (hb:x.foot=some b) (ho:w.heap[b]?=some o):hQ w0 H0 (fK σ t) w b=some o:=by
 unfold hQ;rw [if_neg ?_,if_neg ?_]
 ·exact ho
 ·have:=hM b hb;omega
 rintro ⟨i,z,hz,hf⟩;exact pQ h.apart hx i z hz b hb hf
theorem St.drew (h:St M w0 H0 Hs σ w):St M w0 H0 Hs σ w.drew:=h.ext' (iT.drew _ _)
end
theorem oU {p:Program} {w:World} {at_:Addr} {u:TypeId} {k:Addr} {v:Value} {at2:Bool} {r:World×List Addr} (h:w.viewStore p at_ u k v at2=.ok r):r.1.drawn=w.drawn:=by
 unfold World.viewStore at h;simp only [bind,Except.bind,pure,Except.pure] at h
 repeat' split at h
 all_goals first | (cases h;rfl) | cases h
theorem pR {p:Program} {w:World} {a:Addr} {v:Value} {at2:Bool} {r:World×List Addr} (h:w.farStore p a v at2=.ok r):r.1.drawn=w.drawn:=by
 unfold World.farStore at h
 repeat' split at h
 all_goals first | (cases h;done) | skip
 rename_i h1
 cases h;exact oU h1
theorem nL {α:Type}:∀ (q:Ask α) (w:World),w.drawn≤(w.ask q).2.drawn
 | .done a,w=>Nat.le_refl _
 | .ask what range k,w=>by
  unfold World.ask;dsimp only
  split
  ·exact nL (k 0) w
  exact Nat.le_trans (Nat.le_succ _) (nL (k _) { w with drawn:=w.drawn+1 })
theorem zY (w:World) (c:Sys):w.drawn≤(w.sys c).2.drawn:=by
 unfold World.sys;have h:=nL (Kernel.perform c w.os) w
 split
 ·exact Nat.le_refl _
 rename_i h1
 rw [h1] at h;exact h
theorem rM {α:Type} {P:Program}:∀ (s:Sem α) {w w':World} {a:α},s.run P w=.ok a w'→w.drawn≤w'.drawn:=by
 intro s
 induction s with
 | pure a=>intro w w' b h;unfold Sem.run at h;cases h;exact Nat.le_refl _
 | load m a k ih =>
  intro w w' b h;unfold Sem.run at h
  split at h
  ·exact ih _ h
  split at h
  ·exact ih _ h
  cases h
 | store m a v k ih =>
  intro w w' b h
  have key:(match w.cell? a with
   | some _ => if w.frozen? a then Result.halt (.unsupported (.unsafePointer "a write to bytes that a string shares")) w else k.run P (w.setCell a v)
   | none=>match w.farStore P a v (m==Mode.atomic) with
    | .ok (w,_)=>k.run P w
    | .error h=>.halt h w)=.ok b w':=by
   cases v <;> first | exact h | (simp [Sem.run] at h)
  split at key
  ·split at key
   ·cases key
   have:=ih key;simpa using this
  split at key
  ·rename_i h1
   have:=pR h1;dsimp only at this;rw [← this];exact ih key
  cases key
 | new o k ih=>intro w w' b h;unfold Sem.run at h;have:=ih _ h;exact this
 | shape r k ih=>intro w w' b h;unfold Sem.run at h;exact ih _ h
 | freeze a n k ih =>
  intro w w' b h;unfold Sem.run at h;have:=ih h;have e:(w.freeze a n).drawn=w.drawn:=by unfold World.freeze;split <;> rfl
  omega
 | frozen a k ih=>intro w w' b h;unfold Sem.run at h;exact ih _ h
 | getObj r k ih =>
  intro w w' b h;unfold Sem.run at h
  split at h
  ·cases h
  ·exact ih _ h
  cases h
 | setObj r o k ih =>
  intro w w' b h;unfold Sem.run at h
  split at h
  ·cases h
  ·have:=ih h;exact this
  cases h
 | choose q k ih =>
  intro w w' b h;unfold Sem.run at h
  split at h
  ·exact ih _ h
  exact Nat.le_trans (Nat.le_succ _) (ih _ h)
 | sys c k ih=>intro w w' b h;unfold Sem.run at h;exact Nat.le_trans (zY w c) (ih _ h)
 | program k ih=>intro w w' b h;unfold Sem.run at h;exact ih _ h
 | mark m k ih=>intro w w' b h;unfold Sem.run at h;exact ih h
 | halt h=>intro w w' b h';unfold Sem.run at h';cases h'
end Pk
namespace Pk
open Go
abbrev aF:=List UInt8
def bs (l:aF):ByteArray:=⟨l.toArray⟩
theorem nM (l:aF):(bs l).toList=l:=by
 rw [ByteArray.toList_eq];simp [bs]
theorem mN (l:aF):(bs l).size=l.length:=by simp [bs,ByteArray.size]
theorem JU (l:aF) (k:Nat):(bs l)[k]?=l[k]?:=by
 by_cases h:k < l.length
 ·rw [List.getElem?_eq_getElem h,ByteArray.getElem?_lt' _ _ (by simpa [mN] using h)];rfl
 rw [List.getElem?_eq_none (by omega),ByteArray.getElem?_ge' _ _ (by simp [mN];omega)]
theorem i64 {x:Int} (h1 : -9223372036854775808≤x) (h2:x≤9223372036854775807):IntKind.i64.wrap x=x:=by
 simp only [IntKind.wrap,IntKind.bits,IntKind.signed,Bool.true_and]
 split <;> rename_i h
 ·simp at h;omega
 simp at h;omega
section
variable {P:Program} {r:Option Nat} {n rt:aP} {e:List (Nat×aP)} {p:List PanicEntry→aP} {a:Act} {w:World}
variable {D:List Deferred} {k:Nat} {L:bX} {ops:Array Oper} {rest:List Oper} {d:Nat} {ty:TypeId} {pos:String} {af:Array Edge}
variable {M:Prop} {w0:World} {H0:Hp} {Hs:List Hp} {σ:aN}
theorem pG {op:BinOp} {x y:Operand} {t u:TypeId} {kk:IntKind} {m z v:Int} (hA:aV D k a L) (hd:Nat.blt d k=true) (hx:ev L x=some (.int kk m)) (hy:ev L y=some (.int kk z))
  (hv:(Op.intArith op kk m z)=pure (.int kk v)) (hop:op=.add∨op=.sub∨op=.mul) (h:∀ a,aV D k a ((d,.int kk v)::L)→O P r ops n p rest a w) :
  O P r ops n p (⟨some d,.binOp op t x y u,ty,pos,af,none⟩::rest) a w :=
 cO rfl (fun _ h=>by cases h) (w':=w) (v:=.int kk v) (by
  rcases hop with rfl | rfl | rfl <;> simp [execOp,hA.eval hx,hA.eval hy,eqGuard,binOp,hv]) (h _ (hA.put hd _))
theorem OI {x y:Operand} {t u:TypeId} {m z:Int} (hA:aV D k a L) (hd:Nat.blt d k=true) (hx:ev L x=some (.int .i64 m)) (hy:ev L y=some (.int .i64 z))
  (h1 : -9223372036854775808≤m+z) (h2:m+z≤9223372036854775807) (h:∀ a,aV D k a ((d,.int .i64 (m+z))::L)→O P r ops n p rest a w) :
  O P r ops n p (⟨some d,.binOp .add t x y u,ty,pos,af,none⟩::rest) a w :=
 pG hA hd hx hy (by simp [Op.intArith,i64 h1 h2]) (.inl rfl) h
theorem OJ {x y:Operand} {t u:TypeId} {m z:Int} (hA:aV D k a L) (hd:Nat.blt d k=true) (hx:ev L x=some (.int .i64 m)) (hy:ev L y=some (.int .i64 z))
  (h1 : -9223372036854775808≤m - z) (h2:m - z≤9223372036854775807) (h:∀ a,aV D k a ((d,.int .i64 (m - z))::L)→O P r ops n p rest a w) :
  O P r ops n p (⟨some d,.binOp .sub t x y u,ty,pos,af,none⟩::rest) a w :=
 pG hA hd hx hy (by simp [Op.intArith,i64 h1 h2]) (.inr (.inl rfl)) h
theorem OL {x y:Operand} {t u:TypeId} {m z:Int} (hA:aV D k a L) (hd:Nat.blt d k=true) (hx:ev L x=some (.int .i64 m)) (hy:ev L y=some (.int .i64 z))
  (h1 : -9223372036854775808≤m*z) (h2:m*z≤9223372036854775807) (h:∀ a,aV D k a ((d,.int .i64 (m*z))::L)→O P r ops n p rest a w) :
  O P r ops n p (⟨some d,.binOp .mul t x y u,ty,pos,af,none⟩::rest) a w :=
 pG hA hd hx hy (by simp [Op.intArith,i64 h1 h2]) (.inr (.inr rfl)) h
theorem JV {op:BinOp} {x y:Operand} {t u:TypeId} {kk:IntKind} {m z:Int} (v:Int) (hA:aV D k a L) (hd:Nat.blt d k=true) (hx:ev L x=some (.int kk m)) (hy:ev L y=some (.int kk z))
  (hv:(match op with | .add=>kk.wrap (m+z)=v | .sub=>kk.wrap (m - z)=v | .mul=>kk.wrap (m*z)=v | _=>False)) (h:∀ a,aV D k a ((d,.int kk v)::L)→O P r ops n p rest a w) :
  O P r ops n p (⟨some d,.binOp op t x y u,ty,pos,af,none⟩::rest) a w:=by
 refine pG hA hd hx hy (v:=v) ?_ ?_ h
 ·cases op <;> simp at hv <;> simp [Op.intArith,hv]
 cases op <;> simp at hv ⊢
theorem OM {x y:Operand} {t u:TypeId} {m z:Int} (hA:aV D k a L) (hd:Nat.blt d k=true) (hx:ev L x=some (.int .i64 m)) (hy:ev L y=some (.int .i64 z))
  (h1:0≤m) (h2:0 < z) (h:∀ a,aV D k a ((d,.int .i64 (m%z))::L)→O P r ops n p rest a w) :
  O P r ops n p (⟨some d,.binOp .rem t x y u,ty,pos,af,none⟩::rest) a w:=by
 have e1:m.tmod z=m%z:=Int.tmod_eq_emod_of_nonneg h1
 exact cO rfl (fun _ h=>by cases h) (w':=w) (v:=.int .i64 (m%z)) (by
  simp [execOp,hA.eval hx,hA.eval hy,eqGuard,binOp,Op.intDiv,show z≠0 by omega,e1]) (h _ (hA.put hd _))
def rC:BinOp→Int→Int→Bool
 | .eql,m,z=>decide (m=z)
 | .neq,m,z=>decide (m≠z)
 | .lss,m,z=>decide (m < z)
 | .leq,m,z=>decide (m≤z)
 | .gtr,m,z=>decide (z < m)
 | .geq,m,z=>decide (z≤m)
 | _,_,_=>false
def IY:BinOp→Bool
 | .eql | .neq | .lss | .leq | .gtr | .geq=>true
 | _=>false
theorem rN {op:BinOp} {x y:Operand} {t u:TypeId} {kk:IntKind} {m z:Int} (hA:aV D k a L) (hd:Nat.blt d k=true) (hx:ev L x=some (.int kk m)) (hy:ev L y=some (.int kk z))
  (hop:IY op=true) (h:∀ a,aV D k a ((d,.bool (rC op m z))::L)→O P r ops n p rest a w) :
  O P r ops n p (⟨some d,.binOp op t x y u,ty,pos,af,none⟩::rest) a w :=
 cO rfl (fun _ h=>by cases h) (w':=w) (v:=.bool (rC op m z)) (by
  cases op <;> simp [IY] at hop <;> simp [execOp,hA.eval hx,hA.eval hy,eqGuard,binOp,Op.intCmp,rC,Bool.beq_eq_decide_eq] <;> rfl) (h _ (hA.put hd _))
theorem UD {x y:Operand} {t u:TypeId} {kk:IntKind} {m z:Int} (hA:aV D k a L) (hd:Nat.blt d k=true) (hx:ev L x=some (.int kk m)) (hy:ev L y=some (.int kk z))
  (h:∀ a,aV D k a ((d,.bool (decide (m=z)))::L)→O P r ops n p rest a w):O P r ops n p (⟨some d,.binOp .eql t x y u,ty,pos,af,none⟩::rest) a w:=rN hA hd hx hy rfl h
theorem UE {x y:Operand} {t u:TypeId} {kk:IntKind} {m z:Int} (hA:aV D k a L) (hd:Nat.blt d k=true) (hx:ev L x=some (.int kk m)) (hy:ev L y=some (.int kk z))
  (h:∀ a,aV D k a ((d,.bool (decide (m≠z)))::L)→O P r ops n p rest a w):O P r ops n p (⟨some d,.binOp .neq t x y u,ty,pos,af,none⟩::rest) a w:=rN hA hd hx hy rfl h
theorem UF {x y:Operand} {t u:TypeId} {kk:IntKind} {m z:Int} (hA:aV D k a L) (hd:Nat.blt d k=true) (hx:ev L x=some (.int kk m)) (hy:ev L y=some (.int kk z))
  (h:∀ a,aV D k a ((d,.bool (decide (m < z)))::L)→O P r ops n p rest a w):O P r ops n p (⟨some d,.binOp .lss t x y u,ty,pos,af,none⟩::rest) a w:=rN hA hd hx hy rfl h
theorem UG {x y:Operand} {t u:TypeId} {kk:IntKind} {m z:Int} (hA:aV D k a L) (hd:Nat.blt d k=true) (hx:ev L x=some (.int kk m)) (hy:ev L y=some (.int kk z))
  (h:∀ a,aV D k a ((d,.bool (decide (m≤z)))::L)→O P r ops n p rest a w):O P r ops n p (⟨some d,.binOp .leq t x y u,ty,pos,af,none⟩::rest) a w:=rN hA hd hx hy rfl h
theorem UH {x y:Operand} {t u:TypeId} {kk:IntKind} {m z:Int} (hA:aV D k a L) (hd:Nat.blt d k=true) (hx:ev L x=some (.int kk m)) (hy:ev L y=some (.int kk z))
  (h:∀ a,aV D k a ((d,.bool (decide (z < m)))::L)→O P r ops n p rest a w):O P r ops n p (⟨some d,.binOp .gtr t x y u,ty,pos,af,none⟩::rest) a w:=rN hA hd hx hy rfl h
theorem UI {x y:Operand} {t u:TypeId} {kk:IntKind} {m z:Int} (hA:aV D k a L) (hd:Nat.blt d k=true) (hx:ev L x=some (.int kk m)) (hy:ev L y=some (.int kk z))
  (h:∀ a,aV D k a ((d,.bool (decide (z≤m)))::L)→O P r ops n p rest a w):O P r ops n p (⟨some d,.binOp .geq t x y u,ty,pos,af,none⟩::rest) a w:=rN hA hd hx hy rfl h
theorem ON {x:Operand} {t:TypeId} {b:Bool} (hA:aV D k a L) (hd:Nat.blt d k=true) (hx:ev L x=some (.bool b)) (h:∀ a,aV D k a ((d,.bool (!b))::L)→O P r ops n p rest a w) :
  O P r ops n p (⟨some d,.unOp .not t x,ty,pos,af,none⟩::rest) a w :=
 cO rfl (fun _ h=>by cases h) (w':=w) (v:=.bool (!b)) (by simp [execOp,hA.eval hx,Op.unary]) (h _ (hA.put hd _))
theorem JW {src dst:TypeId} {x:Operand} {kk kd:IntKind} {m v:Int} (hA:aV D k a L) (hd:Nat.blt d k=true) (hx:ev L x=some (.int kk m)) {ds:TypeDesc} (hs:P.underlying src=some ds) (hdst:P.underlying dst=some (.int kd))
  (hv:kd.wrap m=v) (h:∀ a,aV D k a ((d,.int kd v)::L)→O P r ops n p rest a w):O P r ops n p (⟨some d,.convert src dst x,ty,pos,af,none⟩::rest) a w :=
 cO rfl (fun _ h=>by cases h) (w':=w) (v:=.int kd v) (by simp [execOp,hA.eval hx,convert,run_underlying hs,run_underlying hdst,Conv.intToInt,hv]) (h _ (hA.put hd _))
theorem IZ {op:BinOp} {x y:Operand} {t u:TypeId} {s z:aF} {b:Bool} (hA:aV D k a L) (hd:Nat.blt d k=true) (hx:ev L x=some (.string (bs s))) (hy:ev L y=some (.string (bs z)))
  (hb:(op=.eql∧b=decide (s=z))∨(op=.neq∧b=decide (s≠z))∨(op=.lss∧b=Op.bytesLess s z)∨(op=.gtr∧b=!(Op.bytesLess s z||decide (s=z)))∨(op=.leq∧b=(Op.bytesLess s z||decide (s=z)))∨(op=.geq∧b=!Op.bytesLess s z))
  (h:∀ a,aV D k a ((d,.bool b)::L)→O P r ops n p rest a w):O P r ops n p (⟨some d,.binOp op t x y u,ty,pos,af,none⟩::rest) a w:=by
 have e1:(s==z)=decide (s=z):=by by_cases h:s=z <;> simp [h]
 refine cO rfl (fun _ h=>by cases h) (w':=w) (v:=.bool b) ?_ (h _ (hA.put hd _));rcases hb with ⟨rfl,rfl⟩ | ⟨rfl,rfl⟩ | ⟨rfl,rfl⟩ | ⟨rfl,rfl⟩ | ⟨rfl,rfl⟩ | ⟨rfl,rfl⟩ <;> simp [execOp,hA.eval hx,hA.eval hy,eqGuard,binOp,Op.stringOp,nM,e1]
theorem GA {x y:Operand} {t u:TypeId} {s z:aF} (hA:aV D k a L) (hd:Nat.blt d k=true) (hx:ev L x=some (.string (bs s))) (hy:ev L y=some (.string (bs z)))
  (h:∀ a,aV D k a ((d,.bool (decide (s=z)))::L)→O P r ops n p rest a w):O P r ops n p (⟨some d,.binOp .eql t x y u,ty,pos,af,none⟩::rest) a w:=IZ hA hd hx hy (.inl ⟨rfl,rfl⟩) h
theorem GB {x y:Operand} {t u:TypeId} {s z:aF} (hA:aV D k a L) (hd:Nat.blt d k=true) (hx:ev L x=some (.string (bs s))) (hy:ev L y=some (.string (bs z)))
  (h:∀ a,aV D k a ((d,.bool (decide (s≠z)))::L)→O P r ops n p rest a w):O P r ops n p (⟨some d,.binOp .neq t x y u,ty,pos,af,none⟩::rest) a w:=IZ hA hd hx hy (.inr (.inl ⟨rfl,rfl⟩)) h
theorem JX {x:Operand} {t tl:TypeId} {s:aF} (hA:aV D k a L) (hd:Nat.blt d k=true) (hx:ev L x=some (.string (bs s))) (ht:P.underlying t=some .string)
  (h:∀ a,aV D k a ((d,.int .i64 s.length)::L)→O P r ops n p rest a w):O P r ops n p (⟨some d,.call ⟨.builtin .len,#[x],#[t]⟩,tl,pos,af,none⟩::rest) a w :=
 cO rfl (fun _ h=>by cases h) (w':=w) (v:=.int .i64 s.length) (by simp [execOp,resolve,invoke,builtin,Builtin.len_,hA.eval hx,run_underlying ht,mN,goInt]) (h _ (hA.put hd _))
theorem OO {x:Operand} {t tl el:TypeId} {ad:Option Addr} {l c:Nat} (hA:aV D k a L) (hd:Nat.blt d k=true) (hx:ev L x=some (.slice ad l c)) (ht:P.underlying t=some (.slice el))
  (h:∀ a,aV D k a ((d,.int .i64 l)::L)→O P r ops n p rest a w):O P r ops n p (⟨some d,.call ⟨.builtin .len,#[x],#[t]⟩,tl,pos,af,none⟩::rest) a w :=
 cO rfl (fun _ h=>by cases h) (w':=w) (v:=.int .i64 l) (by simp [execOp,resolve,invoke,builtin,Builtin.len_,hA.eval hx,run_underlying ht,goInt]) (h _ (hA.put hd _))
theorem JY {x i:Operand} {t:TypeId} {s:aF} {kk:IntKind} {m:Int} {j:Nat} {c:UInt8} (hA:aV D k a L) (hd:Nat.blt d k=true) (hx:ev L x=some (.string (bs s))) (hi:ev L i=some (.int kk m)) (hm:m=(j:Int)) (hj:s[j]?=some c) (ht:P.underlying t=some .string)
  (h:∀ a,aV D k a ((d,.int .u8 c.toNat)::L)→O P r ops n p rest a w):O P r ops n p (⟨some d,.index t x i,ty,pos,af,none⟩::rest) a w:=by
 subst hm;exact cO rfl (fun _ h=>by cases h) (w':=w) (v:=.int .u8 c.toNat) (by simp [execOp,Instr.index,hA.eval hx,hA.eval hi,asIntOf,run_underlying ht,JU,hj]) (h _ (hA.put hd _))
end
end Pk
namespace Pk
open Go
def jC:Nat→List Value→bX
 | _,[]=>[]
 | i,v::l=>(i,v)::jC (i+1) l
theorem pS:∀ (l:List Value) (i j:Nat) (v:Value),lk (jC i l) j=some v→i≤j∧l[j - i]?=some v
 | [],i,j,v,h=>by simp [jC,lk] at h
 | u::l,i,j,v,h=>by
  by_cases e:i=j
  ·subst e;simp [jC,lk] at h;subst h;simp
  simp only [jC,lk,dW e,cond_false] at h;obtain ⟨h1,h2⟩:=pS l (i+1) j v h;refine ⟨by omega,?_⟩;rw [show j - i=(j - (i+1))+1 by omega,List.getElem?_cons_succ];exact h2
def Rt (P:Program) (fn:Func) (R:Ending→World→Prop):aP:=fun a w=>a.defers=[]∧∃ v,(results fn a.tmps).run P w=.ok v w∧R (.returned v) w
section
variable {P:Program} {f:FuncId} {fn:Func} {c:Code} {nt:Nat} {w:World} {R:Ending→World→Prop}
theorem enter {l:List Value} (hf:P.funcs[f]?=some fn) (hb:fn.body=some c) (hn:fn.ntmps=nt) (hl:Nat.ble l.length nt=true)
  (h:∀ a,aV [] nt a (jC 0 l)→W P none c (Rt P fn R) (Rt P fn R) [] (fun ch a w=>a.defers=[]∧R (.panicked ch) w) a w):Calls P f l.toArray w R:=by
 have hl':l.length≤nt:=by simpa using hl
 have h1:=h { tmps:=l.toArray++Array.replicate (fn.ntmps - l.toArray.size) undef,defers:=[] } ⟨rfl,by simp [hn];omega,fun i v hi=>by
  obtain ⟨_,h2⟩:=pS l 0 i v hi;simp only [Nat.sub_zero] at h2;have hlt:i < l.length:=(List.getElem?_eq_some_iff.1 h2).1;rw [Array.getElem?_append_left (by simpa using hlt)]
  simpa using h2⟩
 refine (callsIn_wide (n:=0)).1 (callsIn_of_wp hf hb trivial ?_);refine wpIn_mono h1 ?_;intro z a w hz
 cases z with
 | normal=>exact hz
 | ret=>exact hz
 | panic ch=>exact hz
 | exit id=>obtain ⟨K,hK,_⟩:=hz;simp [yE] at hK
 | goto l=>exact hz
 | outgrown=>exact hz.elim
variable {a:Act} {L:bX} {k:Nat}
theorem aZ {t:Tmp} {v:Value} (hA:aV [] k a L) (hr:fn.results = #[.tmp t]) (hv:lk L t=some v) (h:R (.returned v) w):Rt P fn R a w :=
 ⟨hA.defers,v,by simp [results,hr,hA.get _ _ hv],h⟩
theorem jL (hA:aV [] k a L) (hr:fn.results = #[]) (h:R (.returned (.tuple #[])) w):Rt P fn R a w :=
 ⟨hA.defers,_,by simp [results,hr],h⟩
theorem uE {t u:Tmp} {v z:Value} (hA:aV [] k a L) (hr:fn.results = #[.tmp t,.tmp u]) (hv:lk L t=some v) (hz:lk L u=some z) (h:R (.returned (.tuple #[v,z])) w):Rt P fn R a w :=
 ⟨hA.defers,_,by simp [results,hr,hA.get _ _ hv,hA.get _ _ hz],h⟩
theorem OP {t u s:Tmp} {v z y:Value} (hA:aV [] k a L) (hr:fn.results = #[.tmp t,.tmp u,.tmp s]) (hv:lk L t=some v) (hz:lk L u=some z) (hy:lk L s=some y) (h:R (.returned (.tuple #[v,z,y])) w):Rt P fn R a w :=
 ⟨hA.defers,_,by simp [results,hr,hA.get _ _ hv,hA.get _ _ hz,hA.get _ _ hy],h⟩
end
def bV (M:Prop) (w:World) (v:Value):Ending→World→Prop
 | .returned u,w'=>u=v∧iT M w w'
 | _,_=>False
def hU (M:Prop) (H:Hp) (w:World) (R:Value→Hp→Prop):Ending→World→Prop
 | .returned u,w'=>R u (grow H w w')∧iT M w w'
 | _,_=>False
section
variable {P:Program} {r:Option Nat} {n rt:aP} {e:List (Nat×aP)} {p:List PanicEntry→aP} {a:Act} {w:World}
variable {D:List Deferred} {k:Nat} {L:bX} {ops:Array Oper} {rest:List Oper} {d:Nat} {ty:TypeId} {pos:String} {af:Array Edge}
variable {M:Prop} {w0:World} {H0:Hp} {Hs:List Hp} {σ:aN}
def oV (L:bX):List Operand→Option (List Value)
 | []=>some []
 | x::xs=>match ev L x,oV L xs with
  | some v,some vs=>some (v::vs)
  | _,_=>none
theorem mP (hA:aV D k a L):∀ {xs:List Operand} {vs:List Value},oV L xs=some vs→xs.map a.eval=vs
 | [],vs,h=>by simp [oV] at h;simp [h]
 | x::xs,vs,h=>by
  simp only [oV] at h
  split at h
  ·rename_i v us hv hus
   simp at h;subst h;simp [hA.eval hv,mP hA hus]
  cases h
theorem kC {x:Operand} {xs:List Operand} {ats:Array TypeId} {f:FuncId} {first cap:Array Value} {vs:List Value} {dst:Option Nat} {gd:Option (Nat×Bool)} (hA:aV D k a L) (hf:ev L x=some (.func (.func f) first cap)) (hxs:oV L xs=some vs)
  (hcall:∀ args w,(callFunc f args).run P w=.ok (.enter f args) w) :
  (execOp a.eval ⟨dst,.call ⟨.value x,xs.toArray,ats⟩,ty,pos,af,gd⟩).run P w=.ok (.enter f (first++vs.toArray++cap)) w:=by
 have:=mP hA hxs;simp [execOp,resolve,hA.eval hf,Deferred.ofValue,invoke,hcall,this]
theorem sW {x:Operand} {xs:List Operand} {ats:Array TypeId} {f:FuncId} {first cap:List Value} {vs args:List Value} {v:Value} (hA:aV D k a L) (hd:Nat.blt d k=true) (hS:St M w0 H0 Hs σ w) (hf:ev L x=some (.func (.func f) first.toArray cap.toArray)) (hxs:oV L xs=some vs)
  (hcall:∀ args w,(callFunc f args).run P w=.ok (.enter f args) w) (hargs:first++vs++cap=args) (hc:Calls P f args.toArray w (bV M w v)) (h:∀ w',St M w0 H0 Hs σ w'→∀ a,aV D k a ((d,v)::L)→O P r ops n p rest a w') :
  O P r ops n p (⟨some d,.call ⟨.value x,xs.toArray,ats⟩,ty,pos,af,none⟩::rest) a w:=by
 subst hargs;refine mK rfl (fun _ h=>by cases h) (kC hA hf hxs hcall) (by simpa using hc) ?_ ?_ ?_
 ·rintro u w' ⟨rfl,hw⟩;exact h w' (hS.ext' hw) _ (hA.put hd _)
 ·intro c w' h;exact h.elim
 intro w' h;exact h.elim
theorem GC {x:Operand} {xs:List Operand} {ats:Array TypeId} {f:FuncId} {first cap:List Value} {vs args:List Value} {R:Value→Hp→Prop} (hA:aV D k a L) (hd:Nat.blt d k=true) (hS:St M w0 H0 Hs σ w) (hf:ev L x=some (.func (.func f) first.toArray cap.toArray)) (hxs:oV L xs=some vs)
  (hcall:∀ args w,(callFunc f args).run P w=.ok (.enter f args) w) (hargs:first++vs++cap=args) (hc:Calls P f args.toArray w (hU M (hQ w0 H0 σ w) w R)) (h:∀ v K w',R v K→St M w0 H0 (K::Hs) σ w'→∀ a,aV D k a ((d,v)::L)→O P r ops n p rest a w') :
  O P r ops n p (⟨some d,.call ⟨.value x,xs.toArray,ats⟩,ty,pos,af,none⟩::rest) a w:=by
 subst hargs;refine mK rfl (fun _ h=>by cases h) (kC hA hf hxs hcall) (by simpa using hc) ?_ ?_ ?_
 ·rintro u w' ⟨hR,hw⟩;exact h u _ w' hR (hS.new hw) _ (hA.put hd _)
 ·intro c w' h;exact h.elim
 intro w' h;exact h.elim
end
end Pk
namespace Pk
open Go
def bT:Value→List Value
 | .agg cs=>cs.toList
 | v=>[v]
theorem gE (v:Value):v.cells=(bT v).toArray:=by cases v <;> simp [Value.cells,bT]
def lT:List Value→Nat→List Value→List Value
 | [],_,_=>[]
 | x::l,0,[]=>x::l
 | _::l,0,c::cs=>c::lT l 0 cs
 | x::l,n+1,cs=>x::lT l n cs
theorem eP:∀ (l:List Value) (n:Nat) (cs:List Value),n+cs.length≤l.length→lT l n cs=l.take n++cs++l.drop (n+cs.length)
 | [],n,cs,h=>by
  have h1:n=0:=by simp at h;omega
  have h2:cs=[]:=List.eq_nil_of_length_eq_zero (by simp only [List.length_nil] at h;omega);subst h1;subst h2;simp [lT]
 | x::l,0,[],_=>by simp [lT]
 | x::l,0,c::cs,h=>by
  have:=eP l 0 cs (by simp at h ⊢;omega);simp only [lT,this];simp
 | x::l,n+1,cs,h=>by
  have:=eP l n cs (by simp at h;omega);simp only [lT,this];simp [show n+1+cs.length=(n+cs.length)+1 by omega]
theorem lU (l:List Value) (n:Nat) (cs:List Value) (h:n+cs.length≤l.length):(lT l n cs).length=l.length:=by
 rw [eP l n cs h];simp;omega
abbrev bF (b:Nat) (t:TypeId) (l:List Value):aR:=.blk b (.cells l.toArray t (0,0))
theorem cC {w:World} {b:Nat} {l:List Value} {t:TypeId} {fz:Nat×Nat} (h:w.heap[b]?=some (.cells l.toArray t fz)):bC (hp w) ⟨b,0,none⟩ l :=
 ⟨rfl,fun j v hv=>⟨l.toArray,t,fz,h,by simpa using hv⟩⟩
theorem BO {w:World} {p:Addr} {cap:Nat} {e:TypeId} {size n:Nat} {xs:List Value} (h:(aR.row (some p) cap e size n xs).holds w):bC (hp w) p xs:=by
 rcases h.2 with ⟨hn,_⟩ | ⟨g,cap',cur,hv,_,hg,_,_,_,ht⟩
 ·cases hn
 simp only [Value.slice.injEq,Option.some.injEq] at hv;obtain ⟨rfl,_,rfl⟩:=hv;refine ⟨rfl,fun j v hj=>⟨cur,e,(0,0),hg,?_⟩⟩;rw [← ht,List.getElem?_take] at hj
 split at hj
 ·simpa using hj
 cases hj
theorem BP {w:World} {ad:Option Addr} {cap:Nat} {e:TypeId} {size n:Nat} {xs:List Value} (h:(aR.row ad cap e size n xs).holds w) (hn:0 < n):∃ b,ad=some ⟨b,0,none⟩:=by
 rcases h.2 with ⟨_,hz⟩ | ⟨g,cap',cur,hv,_⟩
 ·omega
 simp only [Value.slice.injEq] at hv;exact ⟨g,hv.1⟩
theorem sX {w:World} {ad:Option Addr} {cap:Nat} {e:TypeId} {size n:Nat} {xs:List Value} (h:(aR.row ad cap e size n xs).holds w):xs.length=n*size∧n≤cap:=by
 refine ⟨h.1,?_⟩;rcases h.2 with ⟨hn,hz⟩ | ⟨g,cap',cur,hv,_,_,hc,_⟩
 ·omega
 simp only [Value.slice.injEq] at hv;omega
section
variable {P:Program} {r:Option Nat} {n rt:aP} {e:List (Nat×aP)} {p:List PanicEntry→aP} {a:Act} {w:World}
variable {D:List Deferred} {k:Nat} {L:bX} {ops:Array Oper} {rest:List Oper} {d:Nat} {ty:TypeId} {pos:String} {af:Array Edge} {dst:Option Nat}
variable {M:Prop} {w0:World} {H0:Hp} {Hs:List Hp} {σ:aN}
theorem JZ {t:TypeId} {x:Operand} {ad:Addr} {cs:List Value} {v:Value} (hA:aV D k a L) (hd:Nat.blt d k=true) (hx:ev L x=some (.pointer (some ad))) (hag:∀ w,(isAgg t).run P w=.ok false w)
  (hc:bC (hp w) ad cs) (hv:cs[0]?=some v) (h:∀ a,aV D k a ((d,v)::L)→O P r ops n p rest a w):O P r ops n p (⟨some d,.load t x,ty,pos,af,none⟩::rest) a w:=by
 have h0:=hc.cell hv
 have:ad.add 0=ad:=by simp [Addr.add]
 rw [this] at h0;exact cO rfl (fun _ h=>by cases h) (w':=w) (v:=v) (by simp [execOp,Instr.loadAt,Instr.sureAddr,loadVar,hA.eval hx,hag,h0]) (h _ (hA.put hd _))
theorem GD {t:TypeId} {x:Operand} {ad:Addr} {cs:List Value} {s:Nat} (hA:aV D k a L) (hd:Nat.blt d k=true) (hx:ev L x=some (.pointer (some ad))) (hag:∀ w,(isAgg t).run P w=.ok true w) (hz:∀ w,(Go.sizeOf t).run P w=.ok s w)
  (hc:bC (hp w) ad cs) (hl:cs.length=s) (h:∀ a,aV D k a ((d,.agg cs.toArray)::L)→O P r ops n p rest a w):O P r ops n p (⟨some d,.load t x,ty,pos,af,none⟩::rest) a w:=by
 subst hl;have h0:(loadCells ad cs.length).run P w=.ok cs.toArray w:=run_loadCells_list (P:=P) w ad cs (fun j v hv=>hc.cell hv);exact cO rfl (fun _ h=>by cases h) (w':=w) (v:=.agg cs.toArray) (by simp [execOp,Instr.loadAt,Instr.sureAddr,loadVar,hA.eval hx,hag,hz,h0]) (h _ (hA.put hd _))
theorem UJ {s:TypeId} {x:Operand} {ad:Addr} {i sz:Nat} {fs:Array Field} {f:Field} (hA:aV D k a L) (hd:Nat.blt d k=true) (hx:ev L x=some (.pointer (some ad))) (hu:P.underlying s=some (.struct fs)) (hf:fs[i]?=some f) (hz:∀ w,(Go.sizeOf f.type).run P w=.ok (sz+1) w)
  (h:∀ a,aV D k a ((d,.pointer (some (ad.add f.offset)))::L)→O P r ops n p rest a w):O P r ops n p (⟨some d,.fieldAddr s x i,ty,pos,af,none⟩::rest) a w :=
 cO rfl (fun _ h=>by cases h) (w':=w) (v:=.pointer (some (ad.add f.offset))) (by simp [execOp,Instr.fieldAt,Instr.sureAddr,hA.eval hx,run_underlying hu,hf,fieldPlace,hz]) (h _ (hA.put hd _))
theorem OQ {q:Addr} {size ln c:Nat} {x i:Operand} {t el:TypeId} {kk:IntKind} {m:Int} {j:Nat} (hA:aV D k a L) (hd:Nat.blt d k=true)
  (hx:ev L x=some (.slice (some q) ln c)) (hi:ev L i=some (.int kk m)) (hu:P.underlying t=some (.slice el)) (hz:∀ w,(Go.sizeOf el).run P w=.ok size w) (hm:m=(j:Int)) (hj:j < ln)
  (h:∀ a,aV D k a ((d,.pointer (some (q.add (j*size))))::L)→O P r ops n p rest a w):O P r ops n p (⟨some d,.indexAddr t x i,ty,pos,af,none⟩::rest) a w:=by
 subst hm
 exact cO rfl (fun _ h=>by cases h) (w':=w) (v:=.pointer (some (q.add (j*size)))) (by
  simp [execOp,Instr.indexAt,hA.eval hx,hA.eval hi,asIntOf,run_underlying hu,hz,hj]) (h _ (hA.put hd _))
theorem OR {q:Addr} {size ln:Nat} {x i:Operand} {t el:TypeId} {kk:IntKind} {m:Int} {j:Nat} (hA:aV D k a L) (hd:Nat.blt d k=true)
  (hx:ev L x=some (.pointer (some q))) (hi:ev L i=some (.int kk m)) (hu:P.underlying t=some (.array ln el)) (hz:∀ w,(Go.sizeOf el).run P w=.ok size w) (hm:m=(j:Int)) (hj:j < ln)
  (h:∀ a,aV D k a ((d,.pointer (some (q.add (j*size))))::L)→O P r ops n p rest a w):O P r ops n p (⟨some d,.indexAddr t x i,ty,pos,af,none⟩::rest) a w:=by
 subst hm
 exact cO rfl (fun _ h=>by cases h) (w':=w) (v:=.pointer (some (q.add (j*size)))) (by
  simp [execOp,Instr.indexAt,Instr.sureAddr,hA.eval hx,hA.eval hi,asIntOf,run_underlying hu,hz,hj]) (h _ (hA.put hd _))
theorem OS {x:Operand} {q:Addr} (hA:aV D k a L) (hd:Nat.blt d k=true) (hx:ev L x=some (.pointer (some q)))
  (h:∀ a,aV D k a ((d,.pointer (some q))::L)→O P r ops n p rest a w):O P r ops n p (⟨some d,.nilCheck x,ty,pos,af,none⟩::rest) a w :=
 cO rfl (fun _ h=>by cases h) (w':=w) (v:=.pointer (some q)) (by simp [execOp,hA.eval hx]) (h _ (hA.put hd _))
theorem OT {x:Operand} {vs:List Value} {i:Nat} {v:Value} (hA:aV D k a L) (hd:Nat.blt d k=true) (hx:ev L x=some (.tuple vs.toArray)) (hv:vs[i]?=some v)
  (h:∀ a,aV D k a ((d,v)::L)→O P r ops n p rest a w):O P r ops n p (⟨some d,.extract x i,ty,pos,af,none⟩::rest) a w :=
 cO rfl (fun _ h=>by cases h) (w':=w) (v:=v) (by simp [execOp,Instr.extract,hA.eval hx,hv]) (h _ (hA.put hd _))
theorem KA {f:Fn} {xs ys:List Operand} {us vs:List Value} (hA:aV D k a L) (hd:Nat.blt d k=true) (h1:oV L xs=some us) (h2:oV L ys=some vs)
  (h:∀ a,aV D k a ((d,.func f us.toArray vs.toArray)::L)→O P r ops n p rest a w):O P r ops n p (⟨some d,.makeFunc f xs.toArray ys.toArray,ty,pos,af,none⟩::rest) a w :=
 cO rfl (fun _ h=>by cases h) (w':=w) (v:=.func f us.toArray vs.toArray) (by simp [execOp,Instr.makeFunc,mP hA h1,mP hA h2]) (h _ (hA.put hd _))
theorem GE {t:TypeId} {x:Operand} {v:Value} {ds:TypeDesc} (hA:aV D k a L) (hd:Nat.blt d k=true) (hx:ev L x=some v) (hu:P.underlying t=some ds) (hds:(match ds with | .interface _=>false | _=>true)=true)
  (h:∀ a,aV D k a ((d,.iface t v)::L)→O P r ops n p rest a w):O P r ops n p (⟨some d,.makeInterface t x,ty,pos,af,none⟩::rest) a w :=
 cO rfl (fun _ h=>by cases h) (w':=w) (v:=.iface t v) (by
  simp only [execOp,Instr.makeInterface,hA.eval hx]
  cases ds <;> simp at hds <;> simp [run_underlying hu]) (h _ (hA.put hd _))
theorem lV (t:TypeId) (v:Value):(newVar t v).run P w=.ok ⟨w.heap.size,0,none⟩ (w.alloc (.cells v.cells t)):=by
 rfl
theorem eT (w:World) (o:Obj):(w.alloc o).heap[w.heap.size]?=some o:=heap_alloc_new w o
theorem KB {t:TypeId} {x:Operand} {v:Value} {cs:List Value} (hA:aV D k a L) (hd:Nat.blt d k=true) (hS:St M w0 H0 Hs σ w) (hx:ev L x=some v) (hv:bT v=cs)
  (h:∀ q K w',bC K q cs→St M w0 H0 (K::Hs) σ w'→∀ a,aV D k a ((d,.pointer (some q))::L)→O P r ops n p rest a w'):O P r ops n p (⟨some d,.box t x,ty,pos,af,none⟩::rest) a w:=by
 subst hv;refine cO rfl (fun _ h=>by cases h) (w':=w.alloc (.cells v.cells t)) (v:=.pointer (some ⟨w.heap.size,0,none⟩)) (by simp [execOp,Instr.box,hA.eval hx,lV]) ?_;refine h _ _ _ ?_ (hS.new (iT.alloc _ w _)) _ (hA.put hd _);refine ⟨rfl,fun j u hu=>⟨v.cells,t,(0,0),?_,?_⟩⟩
 ·simp only [Pk.grow];rw [if_neg (by omega)];exact eT w _
 rw [gE];simpa using hu
theorem KC (tg:Nat) {t:TypeId} {x:Operand} {v:Value} {cs:List Value} (hA:aV D k a L) (hd:Nat.blt d k=true) (hS:St M w0 H0 Hs σ w) (hx:ev L x=some v) (hv:bT v=cs)
  (h:∀ b w',St M w0 H0 Hs ((tg,bF b t cs)::σ) w'→w0.heap.size≤b→∀ a,aV D k a ((d,.pointer (some ⟨b,0,none⟩))::L)→O P r ops n p rest a w'):O P r ops n p (⟨some d,.box t x,ty,pos,af,none⟩::rest) a w:=by
 subst hv;refine cO rfl (fun _ h=>by cases h) (w':=w.alloc (.cells v.cells t)) (v:=.pointer (some ⟨w.heap.size,0,none⟩)) (by simp [execOp,Instr.box,hA.eval hx,lV]) ?_;refine h _ _ (hS.add (iT.alloc _ w _) tg (x:=bF w.heap.size t (bT v)) ?_ ?_) hS.ext.size _ (hA.put hd _)
 ·simp only [aR.holds,← gE];exact eT w _
 intro b hb;simp [aR.foot] at hb;omega
theorem yF (tg:Nat) {t:TypeId} {z:Value} {cs:List Value} (hA:aV D k a L) (hd:Nat.blt d k=true) (hS:St M w0 H0 Hs σ w) (hz:∀ w,(zeroValue t).run P w=.ok z w) (hv:bT z=cs)
  (h:∀ b w',St M w0 H0 Hs ((tg,bF b t cs)::σ) w'→w0.heap.size≤b→∀ a,aV D k a ((d,.pointer (some ⟨b,0,none⟩))::L)→O P r ops n p rest a w'):O P r ops n p (⟨some d,.alloc t,ty,pos,af,none⟩::rest) a w:=by
 subst hv;refine cO rfl (fun _ h=>by cases h) (w':=w.alloc (.cells z.cells t)) (v:=.pointer (some ⟨w.heap.size,0,none⟩)) (by simp [execOp,Instr.alloc,hz,lV]) ?_;refine h _ _ (hS.add (iT.alloc _ w _) tg (x:=bF w.heap.size t (bT z)) ?_ ?_) hS.ext.size _ (hA.put hd _)
 ·simp only [aR.holds,← gE];exact eT w _
 intro b hb;simp [aR.foot] at hb;omega
theorem sY (tg:Nat) {t t0:TypeId} {x y:Operand} {v:Value} {cs l:List Value} {b off s:Nat} (hA:aV D k a L) (hS:St M w0 H0 Hs σ w) (hx:ev L x=some (.pointer (some ⟨b,off,none⟩))) (hy:ev L y=some v) (hs:∀ w,(Go.sizeOf t).run P w=.ok s w) (hσ:cE σ tg=some (bF b t0 l))
  (hv:bT v=cs) (hcl:cs.length=s) (h1:cs.all (·.oneCell')=true) (hfit:Nat.ble (off+s) l.length=true)
  (h:∀ w',St M w0 H0 Hs (dY σ tg (bF b t0 (lT l off cs))) w'→∀ a,aV D k a L→O P r ops n p rest a w'):O P r ops n p (⟨none,.store t x y,ty,pos,af,none⟩::rest) a w:=by
 subst hv;subst hcl;have hfit':off+(bT v).length≤l.length:=by simpa using hfit
 have hw1:w.heap[b]?=some (.cells l.toArray t0 (0,0)):=hS.get hσ;have hsto:=run_storeCells_at P b off t0 (bT v) 0 l.toArray w hw1 (by simpa using hfit') (fun u hu=>by simpa using List.all_eq_true.1 h1 u hu);have hfull:(l.toArray.toList.take (off+0)++bT v++l.toArray.toList.drop (off+0+(bT v).length))=lT l off (bT v):=by
  rw [eP l off _ hfit'];simp
 rw [hfull] at hsto;refine nK rfl (fun _ h=>by cases h) (w':=w.setRow b (lT l off (bT v)).toArray) ?_ ?_
 ·simp [execOp,Instr.storeAt,Instr.sureAddr,storeVar,hA.eval hx,hA.eval hy,hs,gE,hsto]
 have hgr:rL w (w.setRow b (lT l off (bT v)).toArray) (some b):=⟨⟨rfl,rfl,rfl,by simp,fun j _ hne=>setRow_other _ _ _ _ (fun e=>hne (by rw [e]))⟩,by simp⟩;have hh:(bF b t0 (lT l off (bT v))).holds (w.setRow b (lT l off (bT v)).toArray):=setRow_heap w b l.toArray (lT l off (bT v)).toArray t0 (0,0) hw1;exact h _ (hS.step hσ hgr hh (fun b' hb=>.inl hb)) _ hA
def pU (d:Nat):Operand→Bool
 | .tmp i=>Nat.beq d i
 | _=>false
theorem yG {d:Nat} {x:Operand} {u:Value} (hx:pU d x=false):ev ((d,u)::L) x=ev L x:=by
 cases x <;> simp_all [pU,ev,lk]
theorem OU {t:TypeId} {z v:Value} {cs zs:List Value} {x:Operand} {s:Nat} {ty':TypeId} {pos':String} {af':Array Edge} (hA:aV D k a L) (hd:Nat.blt d k=true) (hS:St M w0 H0 Hs σ w) (hz:∀ w,(zeroValue t).run P w=.ok z w) (hs:∀ w,(Go.sizeOf t).run P w=.ok s w) (hx:ev L x=some v) (hxd:pU d x=false) (hv:bT v=cs) (hzl:bT z=zs) (hzs:zs.length=s) (hcl:cs.length=s) (h1:cs.all (·.oneCell')=true)
  (h:∀ q K w',bC K q cs→St M w0 H0 (K::Hs) σ w'→∀ a,aV D k a ((d,.pointer (some q))::L)→O P r ops n p rest a w'):O P r ops n p (⟨some d,.alloc t,ty,pos,af,none⟩::⟨none,.store t (.tmp d) x,ty',pos',af',none⟩::rest) a w:=by
 refine yF 0 hA hd hS hz hzl fun b w' hS hb a hA=>?_;refine sY 0 hA hS (x:=.tmp d) (y:=x) (off:=0) (by simp [ev,lk]) (by rw [yG hxd];exact hx) hs rfl hv hcl h1 (by simp [hzs]) fun w'' hS a hA=>?_;have he:lT zs 0 cs=cs:=by
  rw [eP _ _ _ (by omega)];simp [show cs.length=zs.length by omega]
 rw [he] at hS;have hf:∀ c,(bF b t cs).foot=some c→w0.heap.size≤c:=fun c hc=>by simp [aR.foot] at hc;omega
 have hg:cE (dY ((0,bF b t zs)::σ) 0 (bF b t cs)) 0=some (bF b t cs):=rfl;refine h ⟨b,0,none⟩ _ w'' ?_ (hS.rest (t:=0)) a hA;refine ⟨rfl,fun j u hu=>⟨cs.toArray,t,(0,0),?_,by simpa using hu⟩⟩;exact hS.rest_vis hg hf rfl (hS.get hg)
theorem BQ (tg:Nat) {t t0:TypeId} {x y:Operand} {v:Value} {cs xs:List Value} {q:Addr} {cap size nn off s:Nat} (hA:aV D k a L) (hS:St M w0 H0 Hs σ w) (hx:ev L x=some (.pointer (some (q.add off)))) (hy:ev L y=some v) (hs:∀ w,(Go.sizeOf t).run P w=.ok s w) (hσ:cE σ tg=some (.row (some q) cap t0 size nn xs))
  (hv:bT v=cs) (hcl:cs.length=s) (h1:cs.all (·.oneCell')=true) (hfit:off+s≤xs.length)
  (h:∀ w',St M w0 H0 Hs (dY σ tg (.row (some q) cap t0 size nn (lT xs off cs))) w'→∀ a,aV D k a L→O P r ops n p rest a w'):O P r ops n p (⟨none,.store t x y,ty,pos,af,none⟩::rest) a w:=by
 subst hv;subst hcl;have hr:=hS.get hσ;rcases hr.2 with ⟨hn,_⟩ | ⟨g,cap',cur,hq,hb0,hg,hnc,hcm,hcs,ht⟩
 ·cases hn
 simp only [Value.slice.injEq,Option.some.injEq] at hq;obtain ⟨rfl,_,rfl⟩:=hq;have hxl:xs.length=nn*size:=hr.1;have hle:nn*size≤cap*size:=Nat.mul_le_mul_right _ hnc;have hfit':off+(bT v).length≤cur.toList.length:=by simp only [Array.length_toList];omega
 have hsto:=run_storeCells_at P g off t0 (bT v) 0 cur w hg (by simp at hfit' ⊢;omega) (fun u hu=>by simpa using List.all_eq_true.1 h1 u hu);have hfull:(cur.toList.take (off+0)++bT v++cur.toList.drop (off+0+(bT v).length))=lT cur.toList off (bT v):=by
  rw [eP cur.toList off _ hfit'];simp
 rw [hfull] at hsto;have e1:(⟨g,0,none⟩:Addr).add off=⟨g,off,none⟩:=by rw [dX rfl];simp
 rw [e1] at hx;refine nK rfl (fun _ h=>by cases h) (w':=w.setRow g (lT cur.toList off (bT v)).toArray) ?_ ?_
 ·simp [execOp,Instr.storeAt,Instr.sureAddr,storeVar,hA.eval hx,hA.eval hy,hs,gE,hsto]
 have hgr:rL w (w.setRow g (lT cur.toList off (bT v)).toArray) (some g):=⟨⟨rfl,rfl,rfl,by simp,fun j _ hne=>setRow_other _ _ _ _ (fun e=>hne (by rw [e]))⟩,by simp⟩;refine h _ (hS.step hσ (y:=.row (some ⟨g,0,none⟩) cap t0 size nn (lT xs off (bT v))) hgr ?_ (fun b' hb=>.inl hb)) _ hA;refine ⟨by rw [lU _ _ _ hfit];exact hxl,.inr ⟨g,cap,_,rfl,hb0,setRow_heap _ _ _ _ _ _ hg,hnc,hcm,?_,?_⟩⟩
 ·simp only [List.size_toArray,lU _ _ _ hfit',Array.length_toList,hcs]
 rw [eP _ _ _ hfit',eP _ _ _ hfit,← ht];apply List.ext_getElem?;intro j;have hlen:(cur.toList.take (nn*size)).length=nn*size:=by simp;omega
 simp only [List.getElem?_take,List.getElem?_append,List.length_append,List.length_take,List.getElem?_drop,Array.length_toList];by_cases c1:j < nn*size
 ·rw [if_pos c1];by_cases c2:j < off
  ·rw [if_pos (by omega),if_pos (by omega),if_pos c2,if_pos (by omega),if_pos (by omega),if_pos c2,if_pos c1]
  by_cases c3:j < off+(bT v).length
  ·rw [if_pos (by omega),if_neg (by omega),if_pos (by omega),if_neg (by omega)];congr 1;omega
  rw [if_neg (by omega),if_neg (by omega),if_pos (by omega)];congr 1;omega
 rw [if_neg c1];rw [if_neg (by omega),if_neg (by omega)]
end
end Pk
namespace Pk
open Go
def gK (pl:Nat→Option (Nat×Nat)):List Value→List (Nat×Value)→Option (List Value)
 | l,[]=>some l
 | l,(i,v)::r =>
  match pl i with
  | none=>none
  | some (off,size)=>bif Nat.beq (bT v).length size&&Nat.ble (off+size) l.length then gK pl (lT l off (bT v)) r else none
theorem uF:∀ (cs:List Value) (off:Nat) (l:List Value) (j:Nat),off+j+cs.length≤l.length →
  (cs.zipIdx j).foldl (fun (acc:Array Value) (x:Value×Nat)=>acc.setIfInBounds (off+x.2) x.1) l.toArray=(lT l (off+j) cs).toArray
 | [],off,l,j,h=>by
  rw [eP _ _ _ h];simp
 | c::cs,off,l,j,h=>by
  simp only [List.length_cons] at h;simp only [List.zipIdx_cons,List.foldl_cons];have e1:l.toArray.setIfInBounds (off+j) c=(l.set (off+j) c).toArray:=by simp
  rw [e1,uF cs off (l.set (off+j) c) (j+1) (by simp;omega)];congr 1;rw [eP _ _ _ (by simp;omega),eP _ _ _ (by simp;omega)];have h2:off+(j+1)=off+j+1:=by omega
  rw [h2];have e2:(l.set (off+j) c).take (off+j+1)=l.take (off+j)++[c]:=by
   rw [List.take_succ_eq_append_getElem (by simp;omega)];rw [List.take_set_of_le (by omega)];simp
  have e3:(l.set (off+j) c).drop (off+j+1+cs.length)=l.drop (off+j+(cs.length+1)):=by
   rw [List.drop_set_of_lt (by omega)];congr 1;omega
  rw [e2,e3];simp
theorem sZ (pl:Nat→Option (Nat×Nat)):∀ (parts:List (Nat×Value)) (l:List Value),Instr.fill pl l.toArray parts=(gK pl l parts).map List.toArray
 | [],l=>by simp [Instr.fill,gK]
 | (i,v)::r,l=>by
  simp only [Instr.fill,gK]
  cases hp:pl i with
  | none=>rfl
  | some os =>
   obtain ⟨off,size⟩:=os;simp only [gE,List.size_toArray];by_cases h1:(bT v).length=size
   ·by_cases h2:off+size≤l.length
    ·subst h1;have hb:(Nat.beq (bT v).length (bT v).length&&Nat.ble (off+(bT v).length) l.length)=true:=by simp [h2]
     rw [hb,cond_true,if_neg (by simp;omega)];have:=uF (bT v) off l 0 (by omega);have e1:((bT v).toArray.zipIdx.foldl (fun (cs:Array Value) (x:Value×Nat)=>match x with | (c,j)=>cs.setIfInBounds (off+j) c) l.toArray)=(lT l off (bT v)).toArray:=by
      rw [← Array.foldl_toList];simpa using this
     rw [e1,sZ pl r]
    have hb:(Nat.beq (bT v).length size&&Nat.ble (off+size) l.length)=false:=by
     rw [Bool.and_eq_false_iff];right;rw [Bool.eq_false_iff];intro h;exact h2 (by simpa using h)
    rw [hb,cond_false,if_pos (by simp;omega)];rfl
   have hb:(Nat.beq (bT v).length size&&Nat.ble (off+size) l.length)=false:=by
    rw [Bool.and_eq_false_iff];left;exact dW h1
   rw [hb,cond_false,if_pos (by simp [h1])];rfl
def fC (L:bX):List (Nat×Operand)→Option (List (Nat×Value))
 | []=>some []
 | (i,x)::xs=>match ev L x,fC L xs with
  | some v,some vs=>some ((i,v)::vs)
  | _,_=>none
theorem iN {D:List Deferred} {k:Nat} {a:Act} {L:bX} (hA:aV D k a L):∀ {xs:List (Nat×Operand)} {vs:List (Nat×Value)},fC L xs=some vs→xs.map (fun (i,x)=>(i,a.eval x))=vs
 | [],vs,h=>by simp [fC] at h;simp [h]
 | (i,x)::xs,vs,h=>by
  simp only [fC] at h
  split at h
  ·rename_i v us hv hus
   simp at h;subst h;simp [hA.eval hv,iN hA hus]
  cases h
structure dI (P:Program) (t:TypeId) (z:List Value) (pl:Array (Nat×Nat)):Prop where
 zero:∃ v,bT v=z∧∀ w,(zeroValue t).run P w=.ok v w
 desc:∃ fs,P.underlying t=some (.struct fs)∧∀ w,(fs.mapM fun f=>do pure (f.offset,← Go.sizeOf f.type):Sem (Array (Nat×Nat))).run P w=.ok pl w
structure cP (P:Program) (t el:TypeId) (z:List Value) (size bytes:Nat):Prop where
 desc:P.underlying t=some (.slice el)
 info:∃ i v,P.info? el=some i∧i.zero=some v∧bT v=z∧i.size=size∧i.bytes=bytes
 zl:z.length=size
 pos:0 < size
section
variable {P:Program} {r:Option Nat} {n rt:aP} {e:List (Nat×aP)} {p:List PanicEntry→aP} {a:Act} {w:World}
variable {D:List Deferred} {k:Nat} {L:bX} {ops:Array Oper} {rest:List Oper} {d:Nat} {ty:TypeId} {pos:String} {af:Array Edge} {dst:Option Nat}
variable {M:Prop} {w0:World} {H0:Hp} {Hs:List Hp} {σ:aN}
theorem GF {t:TypeId} {xs:List (Nat×Operand)} {vs:List (Nat×Value)} {z cs:List Value} {pl:Array (Nat×Nat)} (hA:aV D k a L) (hd:Nat.blt d k=true) (hb:dI P t z pl) (hx:fC L xs=some vs) (hf:gK (pl[·]?) z vs=some cs)
  (h:∀ a,aV D k a ((d,.agg cs.toArray)::L)→O P r ops n p rest a w):O P r ops n p (⟨some d,.build t xs.toArray,ty,pos,af,none⟩::rest) a w:=by
 obtain ⟨v,hv,hz⟩:=hb.zero;obtain ⟨fs,hu,hpl⟩:=hb.desc;have hm:=iN hA hx;have hfill:Instr.fill (pl[·]?) v.cells vs=some cs.toArray:=by rw [gE,hv,sZ,hf];rfl
 have hrun:(Instr.build t vs.toArray).run P w=.ok (.agg cs.toArray) w:=by
  simp only [Instr.build,Sem.run_bind,hz,run_underlying hu,Result.andThen,hpl,hfill];rfl
 exact cO rfl (fun _ h=>by cases h) (w':=w) (v:=.agg cs.toArray) (by simp [execOp,hm,hrun]) (h _ (hA.put hd _))
def eD (z:List Value):Nat→List Value
 | 0=>[]
 | n+1=>z++eD z n
theorem mQ (z:List Value):∀ n,(eD z n).length=n*z.length
 | 0=>by simp [eD]
 | n+1=>by simp [eD,mQ z n,Nat.add_mul,Nat.add_comm]
theorem rO (z:List Value) (hz:0 < z.length):∀ n j,(eD z n)[j]?=if j < n*z.length then z[j%z.length]? else none
 | 0,j=>by simp [eD]
 | n+1,j=>by
  simp only [eD,List.getElem?_append,rO z hz n];by_cases h:j < z.length
  ·rw [if_pos h,if_pos (by rw [Nat.add_mul];omega),Nat.mod_eq_of_lt h]
  rw [if_neg h];by_cases h2:j - z.length < n*z.length
  ·rw [if_pos h2,if_pos (by rw [Nat.add_mul];omega)];have:=Nat.mod_eq_sub_mod (a:=j) (b:=z.length) (by omega);rw [this]
  rw [if_neg h2,if_neg (by rw [Nat.add_mul];omega)]
theorem uG (z:List Value) (n:Nat) (hz:0 < z.length):((Array.range (n*z.length)).map (z.toArray[· % z.toArray.size]!))=(eD z n).toArray:=by
 apply Array.ext';apply List.ext_getElem?;intro j;simp only [Array.toList_map,Array.toList_range,List.getElem?_map,List.size_toArray,rO z hz];by_cases h:j < n*z.length
 ·rw [List.getElem?_range h,if_pos h];have hm:j%z.length < z.length:=Nat.mod_lt _ hz;simp [hm]
 rw [if_neg h];simp;omega
theorem kD {t el:TypeId} {z cs:List Value} {size bytes ln:Nat} {vs:List (Nat×Value)} (he:cP P t el z size bytes) (h1:ln*size≤16777216) (hf:gK (fun i=>some (i*size,size)) (eD z ln) vs=some cs) :
  (Instr.buildSlice t ln vs.toArray).run P w=.ok (.slice (some ⟨w.heap.size,0,none⟩) ln ln) (w.alloc (.cells cs.toArray el)):=by
 obtain ⟨i,v,hi,hz,hv,hs,_⟩:=he.info;have hu:=he.desc;have hsz:(Go.sizeOf el).run P w=.ok size w:=by simp [Go.sizeOf,typeInfo,hi,hs]
 have hzv:(zeroValue el).run P w=.ok v w:=by simp [zeroValue,typeInfo,hi,hz]
 have hzl:=he.zl;have hfill:Instr.fill (fun i=>some (i*size,size)) (eD z ln).toArray vs=some cs.toArray:=by rw [sZ,hf];rfl
 by_cases h0:ln*size=0
 ·have hln:ln=0:=by have:=he.pos;rcases Nat.mul_eq_zero.1 h0 with h | h <;> omega
  subst hln;have e1:(Array.range (0*size)).map (fun x=>(#[]:Array Value)[x%(#[]:Array Value).size]!)=(eD z 0).toArray:=by simp [eD]
  simp only [Instr.buildSlice,Sem.run_bind,run_underlying hu,Result.andThen,hsz];have e0:∀ f:Nat→Value,Array.map f (Array.range 0) = #[]:=fun f=>by simp
  simp only [eD] at hfill;simp only [h0,show ¬(0 > 2 ^ 24) by omega,if_false,if_true];rw [Sem.run_bind];show Result.andThen (Result.ok #[] w) _=_;simp only [Result.andThen,e0,hfill];rfl
 have h24':¬(ln*size > 2 ^ 24):=by simp only [show (2:Nat) ^ 24=16777216 by decide];omega
 have e1:(Array.range (ln*size)).map (fun x=>v.cells[x%v.cells.size]!)=(eD z ln).toArray:=by
  rw [gE,hv];have:=uG z ln (by rw [hzl];exact he.pos);rw [hzl] at this;exact this
 simp only [Instr.buildSlice,Sem.run_bind,run_underlying hu,Result.andThen,hsz];rw [if_neg h24',if_neg h0];simp [hzv,Result.andThen];simp only [e1,hfill];rfl
theorem BS {t el:TypeId} {xs:List (Nat×Operand)} {vs:List (Nat×Value)} {z cs:List Value} {size bytes ln:Nat} (hA:aV D k a L) (hd:Nat.blt d k=true) (hS:St M w0 H0 Hs σ w) (he:cP P t el z size bytes) (h0:Nat.ble (ln*size) 16777216=true) (hx:fC L xs=some vs) (hf:gK (fun i=>some (i*size,size)) (eD z ln) vs=some cs)
  (h:∀ q K w',q.spot=none→bC K q cs→St M w0 H0 (K::Hs) σ w'→∀ a,aV D k a ((d,.slice (some q) ln ln)::L)→O P r ops n p rest a w'):O P r ops n p (⟨some d,.buildSlice t ln xs.toArray,ty,pos,af,none⟩::rest) a w:=by
 have hm:=iN hA hx;have hrun:=kD (w:=w) he (by simpa using h0) hf;refine cO rfl (fun _ h=>by cases h) (w':=w.alloc (.cells cs.toArray el)) (v:=.slice (some ⟨w.heap.size,0,none⟩) ln ln) (by simp [execOp,hm,hrun]) ?_;refine h _ _ _ rfl ?_ (hS.new (iT.alloc _ w _)) _ (hA.put hd _);refine ⟨rfl,fun j u hu=>⟨cs.toArray,el,(0,0),?_,by simpa using hu⟩⟩;simp only [Pk.grow];rw [if_neg (by omega)];exact eT w _
theorem rP:∀ (pl:Nat→Option (Nat×Nat)) (vs:List (Nat×Value)) (l cs:List Value),gK pl l vs=some cs→cs.length=l.length
 | pl,[],l,cs,h=>by simp [gK] at h;subst h;rfl
 | pl,(i,v)::vs,l,cs,h=>by
  simp only [gK] at h
  split at h
  ·cases h
  rename_i off size hp
  by_cases hb:(Nat.beq (bT v).length size&&Nat.ble (off+size) l.length)=true
  ·rw [hb,cond_true] at h;rw [rP pl vs _ _ h,lU];rw [Bool.and_eq_true] at hb;have h1:=Nat.eq_of_beq_eq_true hb.1;have h2:=Nat.le_of_ble_eq_true hb.2;omega
  rw [Bool.not_eq_true] at hb;rw [hb,cond_false] at h;cases h
theorem KD (tg:Nat) {t el:TypeId} {xs:List (Nat×Operand)} {vs:List (Nat×Value)} {z cs:List Value} {size bytes ln:Nat} (hA:aV D k a L) (hd:Nat.blt d k=true) (hS:St M w0 H0 Hs σ w) (he:cP P t el z size bytes) (h0:Nat.ble (ln*size) 16777216=true) (hx:fC L xs=some vs) (hf:gK (fun i=>some (i*size,size)) (eD z ln) vs=some cs)
  (h:∀ b w',St M w0 H0 Hs ((tg,.row (some ⟨b,0,none⟩) ln el size ln cs)::σ) w'→w0.heap.size≤b→∀ a,aV D k a ((d,.slice (some ⟨b,0,none⟩) ln ln)::L)→O P r ops n p rest a w'):O P r ops n p (⟨some d,.buildSlice t ln xs.toArray,ty,pos,af,none⟩::rest) a w:=by
 have hm:=iN hA hx;have h24':ln*size≤16777216:=by simpa using h0
 have hrun:=kD (w:=w) he h24' hf;have hlen:cs.length=ln*size:=by rw [rP _ _ _ _ hf,mQ,he.zl]
 refine cO rfl (fun _ h=>by cases h) (w':=w.alloc (.cells cs.toArray el)) (v:=.slice (some ⟨w.heap.size,0,none⟩) ln ln) (by simp [execOp,hm,hrun]) ?_;have hln:ln≤maxLen:=by
  have h1:ln≤ln*size:=Nat.le_mul_of_pos_right _ he.pos;unfold maxLen;omega
 refine h _ _ (hS.add (iT.alloc _ w _) tg (x:=.row (some ⟨w.heap.size,0,none⟩) ln el size ln cs) ?_ ?_) hS.ext.size _ (hA.put hd _)
 ·exact ⟨hlen,.inr ⟨w.heap.size,ln,cs.toArray,rfl,Nat.zero_le _,eT w _,Nat.le_refl _,hln,by simp [hlen],by simp [← hlen]⟩⟩
 intro b hb;simp [aR.foot] at hb;omega
def pV (H:Hp) (sad:Option Addr) (m c size:Nat) (news:List Value):Prop :=
 news.length=m*size∧news.all (·.oneCell')=true∧((sad=none∧m=0∧c=0)∨∃ q,sad=some q∧bC H q news)
theorem zZ (ad:Option Addr) (nn cap:Nat):(Value.slice ad nn cap).ownBlock=ad.map (·.block):=by cases ad <;> rfl
theorem wV {t el:TypeId} {z:List Value} {size bytes:Nat} (ty:TypeId) (he:cP P t el z size bytes) {ad sad:Option Addr} {cap nn m c:Nat} {xs news:List Value} (hr:(aR.row ad cap el size nn xs).holds w) (hs:pV (hp w) sad m c size news)
  (h0:nn+m≤maxLen) (hby:(nn+m)*bytes≤140737488355328) :
  ∃ ad' cap' w',(Builtin.append_ #[t,t] ty #[.slice ad nn cap,.slice sad m c]).run P w=.ok (.slice ad' (nn+m) cap') w'∧(aR.row ad' cap' el size (nn+m) (xs++news)).holds w'∧w.grownBy w' (ad.map (·.block)) ∧
   (∀ b,ad'.map (·.block)=some b→ad.map (·.block)=some b∨w.heap.size≤b):=by
 obtain ⟨i,v,hi,hz,hv,hsz,hbt⟩:=he.info;have hzs:v.cells.size=size:=by rw [gE,hv];simp [he.zl]
 obtain ⟨hnl,hone,hsrc⟩:=hs;have hone':∀ u∈news,u.oneCell'=true:=fun u hu=>by simpa using List.all_eq_true.1 hone u hu
 rcases hsrc with ⟨rfl,rfl,rfl⟩ | ⟨q,rfl,hq⟩
 ·have hn0:news=[]:=List.eq_nil_of_length_eq_zero (by simpa using hnl);subst hn0;have:=run_append_owned_none (P:=P) w 0 t ty el i size he.desc hi (.slice ad nn cap) nn xs hr;exact ⟨ad,cap,w,this,by simpa using hr,⟨rfl,rfl,rfl,Nat.le_refl _,fun _ _ _=>rfl⟩,fun b hb=>.inl hb⟩
 have hcell:∀ j u,news[j]?=some u→w.cell? (q.add j)=some u:=fun j u hu=>hq.cell hu;rcases Nat.eq_zero_or_pos m with rfl | hm
 ·have hn0:news=[]:=List.eq_nil_of_length_eq_zero (by simpa using hnl);subst hn0
  cases ad with
  | none =>
   obtain ⟨v',w',h1,h2,h3,h4⟩:=run_append_own (P:=P) w 0 t ty el i v size bytes he.desc hi hz hsz hbt hzs he.pos (.slice none nn cap) nn xs hr q 0 c [] hnl hcell hone' h0 hby (Nat.zero_le _);have hnil:Value.slice none nn cap=.slice none 0 0:=by
    rcases hr.2 with ⟨h,_⟩ | ⟨g,_,_,h,_⟩
    ·exact h
    cases h
   obtain rfl:=h4.2 ⟨hnil,rfl⟩;simp only [Value.slice.injEq,true_and] at hnil;obtain ⟨rfl,rfl⟩:=hnil;exact ⟨none,0,w',h1,h2,h3,fun b hb=>by simp at hb⟩
  | some g =>
   rcases hr.2 with ⟨h,_⟩ | ⟨g',cap',cur,h,_,hg,hnc,hcm,hcs,ht⟩
   ·cases h
   simp only [Value.slice.injEq,Option.some.injEq] at h;obtain ⟨rfl,_,rfl⟩:=h;have hle:nn*size≤cap*size:=Nat.mul_le_mul_right _ hnc;have h1:=run_append_room (P:=P) w t ty el i he.desc hi g' nn cap cur hg q 0 c [] (by simp) hcell hone' hnc (by rw [hsz,hcs];simpa using hle);have e1:(cur.toList.take (nn*i.size)++[]++cur.toList.drop (nn*i.size+([]:List Value).length)).toArray=cur:=by simp
   rw [e1,setRow_self w g' cur el (0,0) hg] at h1;exact ⟨some ⟨g',0,none⟩,cap,w,h1,by simpa using hr,⟨rfl,rfl,rfl,Nat.le_refl _,fun _ _ _=>rfl⟩,fun b hb=>.inl hb⟩
 obtain ⟨g,cap',w',h1,h2,h3,h4,_⟩:=run_append_lies (P:=P) (w:=w) t ty 0 el i v size bytes he.desc hi hz hsz hbt hzs he.pos (.slice ad nn cap) nn xs hr q m c news hnl hcell hone' hm h0 hby (Nat.zero_le _) w.heap.size rfl;rw [zZ] at h3 h4;refine ⟨some ⟨g,0,none⟩,cap',w',h1,h2,h3,fun b hb=>?_⟩;simp at hb;subst hb;rcases h4 with h4 | h4
 ·exact .inl h4
 exact .inr (by omega)
theorem pW (tg:Nat) {t el:TypeId} {s x:Operand} {z:List Value} {size bytes:Nat} {ad sad:Option Addr} {cap nn m c:Nat} {xs news:List Value} (hA:aV D k a L) (hd:Nat.blt d k=true) (hS:St M w0 H0 Hs σ w) (he:cP P t el z size bytes) (hs:ev L s=some (.slice ad nn cap)) (hσ:cE σ tg=some (.row ad cap el size nn xs)) (hx:ev L x=some (.slice sad m c)) (hsrc:pV (hp w) sad m c size news)
  (h0:nn+m≤1073741824) (hby:Nat.ble bytes 131072=true)
  (h:∀ ad' cap' w',St M w0 H0 Hs (dY σ tg (.row ad' cap' el size (nn+m) (xs++news))) w'→∀ a,aV D k a ((d,.slice ad' (nn+m) cap')::L)→O P r ops n p rest a w'):O P r ops n p (⟨some d,.call ⟨.builtin .append,#[s,x],#[t,t]⟩,ty,pos,af,none⟩::rest) a w:=by
 have hby':bytes≤131072:=by simpa using hby
 obtain ⟨ad',cap',w',h1,h2,h3,h4⟩:=wV ty he (hS.get hσ) hsrc (by unfold maxLen;omega) (Nat.le_trans (Nat.mul_le_mul h0 hby') (by decide));refine cO rfl (fun _ h=>by cases h) (w':=w') (v:=.slice ad' (nn+m) cap') (by simp [execOp,resolve,invoke,builtin,hA.eval hs,hA.eval hx,h1]) ?_;exact h ad' cap' w' (hS.step hσ ⟨h3,rM _ h1⟩ h2 h4) _ (hA.put hd _)
theorem KE (tg:Nat) {t el:TypeId} {s x:Operand} {v:Value} {z cs:List Value} {size bytes d1:Nat} {ad:Option Addr} {cap nn:Nat} {xs:List Value} {ty1:TypeId} {pos1:String} {af1:Array Edge} (hA:aV D k a L) (hd:Nat.blt d k=true) (hd1:Nat.blt d1 k=true) (hS:St M w0 H0 Hs σ w) (he:cP P t el z size bytes) (hs:ev L s=some (.slice ad nn cap)) (hsd:pU d1 s=false) (hσ:cE σ tg=some (.row ad cap el size nn xs)) (hx:ev L x=some v) (hv:bT v=cs) (hcl:cs.length=size) (h1:cs.all (·.oneCell')=true)
  (h2:Nat.ble size 16777216=true) (h3:nn+1≤1073741824) (hby:Nat.ble bytes 131072=true)
  (h:∀ ad' cap' w' u,St M w0 H0 Hs (dY σ tg (.row ad' cap' el size (nn+1) (xs++cs))) w'→∀ a,aV D k a ((d,.slice ad' (nn+1) cap')::(d1,u)::L)→O P r ops n p rest a w') :
  O P r ops n p (⟨some d1,.buildSlice t 1 #[(0,x)],ty1,pos1,af1,none⟩::⟨some d,.call ⟨.builtin .append,#[s,.tmp d1],#[t,t]⟩,ty,pos,af,none⟩::rest) a w:=by
 have hf:gK (fun i=>some (i*size,size)) (eD z 1) [(0,v)]=some cs:=by
  simp only [gK,Nat.zero_mul,eD,List.append_nil,he.zl,hv,hcl,fL,Nat.zero_add,Bool.true_and];rw [show Nat.ble size size=true by simp,cond_true,eP _ _ _ (by simp [he.zl,hcl])];simp [he.zl,hcl]
 refine BS (xs:=[(0,x)]) (vs:=[(0,v)]) hA hd1 hS he (by simpa using h2) (by simp [fC,hx]) hf fun q K w' hq hK hS' a hA=>?_;refine pW tg (sad:=some q) (m:=1) (c:=1) (news:=cs) hA hd hS' he (by rw [yG hsd];exact hs) hσ (by simp [ev,lk]) ⟨by simp [hcl],h1,.inr ⟨q,rfl,hK.mono (hS'.hp 0 rfl)⟩⟩ h3 hby fun ad' cap' w'' hS a hA=>?_;refine h ad' cap' w'' _ ?_ a hA;exact ⟨hS.h0,hS.ext,fun H hH=>hS.le H (List.mem_cons_of_mem _ hH),hS.own,hS.apart⟩
theorem St.nilRow (hS:St M w0 H0 Hs σ w) (tg:Nat) (el:TypeId) (size:Nat):St M w0 H0 Hs ((tg,.row none 0 el size 0 [])::σ) w :=
 hS.add (iT.refl _ w) tg ⟨by simp,.inl ⟨rfl,rfl⟩⟩ (fun b hb=>by simp [aR.foot] at hb)
theorem KF (tg:Nat) {t el:TypeId} {x y:Operand} {z:List Value} {size bytes nn:Nat} {m m':Int} {kl kc:IntKind} (hA:aV D k a L) (hd:Nat.blt d k=true) (hS:St M w0 H0 Hs σ w) (he:cP P t el z size bytes) (hx:ev L x=some (.int kl m)) (hy:ev L y=some (.int kc m')) (hm:m=(nn:Int)) (hm':m'=(nn:Int)) (h0:nn≤1073741824) (hby:Nat.ble bytes 131072=true)
  (h:∀ b w',St M w0 H0 Hs ((tg,.row (some ⟨b,0,none⟩) nn el size nn (eD z nn))::σ) w'→w0.heap.size≤b→∀ a,aV D k a ((d,.slice (some ⟨b,0,none⟩) nn nn)::L)→O P r ops n p rest a w'):O P r ops n p (⟨some d,.makeSlice t x y,ty,pos,af,none⟩::rest) a w:=by
 subst hm;subst hm';obtain ⟨i,v,hi,hz,hv,hsz,hbt⟩:=he.info;have hby':bytes≤131072:=by simpa using hby
 obtain ⟨w',h1,h2,h3⟩:=run_make_full (P:=P) w 0 t el i v size he.desc hi hz hsz kl kc nn (by rw [hbt];exact Nat.le_trans (Nat.mul_le_mul hby' h0) (by decide)) (by unfold maxLen;omega) (Nat.zero_le _);have he1:(madeCells v.cells (nn*size)).toList=eD z nn:=by
  have:=uG z nn (by rw [he.zl];exact he.pos);rw [he.zl] at this;have e2:madeCells v.cells (nn*size)=(Array.range (nn*size)).map (z.toArray[· % z.toArray.size]!):=by rw [gE,hv];rfl
  rw [e2,this]
 rw [he1] at h2;have hext:iT M w w':=⟨h3.os,h3.tape,h3.output,h3.size,fun b hb=>h3.block b hb (by simp),fun _=>rM _ h1⟩;refine cO rfl (fun _ h=>by cases h) (w':=w') (v:=.slice (some ⟨w.heap.size,0,none⟩) nn nn) (by simp [execOp,hA.eval hx,hA.eval hy,h1]) ?_;refine h _ _ (hS.add hext tg (x:=.row (some ⟨w.heap.size,0,none⟩) nn el size nn (eD z nn)) h2 ?_) hS.ext.size _ (hA.put hd _);intro b hb;simp [aR.foot] at hb;omega
end
end Pk
namespace Pk
open Go
abbrev bY:=List (Nat×(Hp→Prop))
def GG (s:List Nat) (E:bX):bX:=E.filter (fun q=>s.contains q.1)
def KG (s:List Nat):bY→Hp→Prop
 | [],_=>True
 | (d,φ)::F,K=>(s.contains d=true→φ K)∧KG s F K
def eW:bY→Hp→Prop
 | [],_=>True
 | (_,φ)::F,K=>φ K∧eW F K
def kE {α:Type} (G:α→Hp→Prop):Prop:=∀ x H K,Hp.le H K→G x H→G x K
theorem tA:∀ {L:bX} {i:Nat} {v:Value},lk L i=some v→(i,v)∈L
 | [],i,v,h=>by simp [lk] at h
 | (j,u)::L,i,v,h=>by
  by_cases e:j=i
  ·subst e;simp [lk] at h;subst h;exact List.mem_cons_self
  simp only [lk,dW e,cond_false] at h;exact List.mem_cons_of_mem _ (tA h)
theorem jD {A B:bX} {i:Nat} {v:Value} (h:lk (A++B) i=some v):(i,v)∈A∨lk B i=some v:=by
 induction A with
 | nil=>exact .inr h
 | cons q A ih =>
  obtain ⟨j,u⟩:=q;by_cases e:j=i
  ·subst e;simp [lk] at h;subst h;exact .inl List.mem_cons_self
  simp only [List.cons_append,lk,dW e,cond_false] at h;rcases ih h with h | h
  ·exact .inl (List.mem_cons_of_mem _ h)
  exact .inr h
def fM:Op→Bool
 | .call ⟨.builtin _,_,_⟩=>false
 | .call _=>true
 | _=>false
def hY:Op→Bool
 | .move _ | .assign _ | .pick .. | .alloc _ | .box .. | .build .. | .buildSlice .. | .load .. | .binOp .. | .unOp .. | .convert .. | .makeInterface .. | .makeFunc .. | .makeMap .. | .makeSlice .. | .slice ..
 | .fieldAddr .. | .field .. | .indexAddr .. | .index .. | .lookup .. | .extract .. | .typeAssert ..=>true
 | .nilCheck _=>true
 | .store .. | .mapUpdate ..=>true
 | .call ⟨.builtin .len,_,_⟩ | .call ⟨.builtin .min,_,_⟩ | .call ⟨.builtin .max,_,_⟩ | .call ⟨.builtin .append,_,_⟩ | .call ⟨.builtin .cap,_,_⟩=>true
 | _=>false
def kF (s:Sem Next):Prop:=∀ P w,(∃ v w',s.run P w=.ok (.value v) w')∨(∃ w',s.run P w=.ok .skip w')∨(∃ h w',s.run P w=.halt h w')
theorem kF.value (v:Value):kF (pure (.value v)):=fun _ w=>.inl ⟨v,w,rfl⟩
theorem kF.bind {α:Type} (s:Sem α) {f:α→Sem Next} (h:∀ x,kF (f x)):kF (s >>= f):=fun P w=>by
 rw [Sem.run_bind]
 cases s.run P w with
 | ok x w'=>exact h x P w'
 | halt h w'=>exact .inr (.inr ⟨h,w',rfl⟩)
theorem kF.v (s:Sem Value):kF (do pure (.value (← s))):=kF.bind s fun v=>kF.value v
theorem kF.nilDeref:kF (runtimePanic .nilDeref):=fun _ _=>.inr (.inr ⟨_,_,rfl⟩)
theorem kF.skip:kF (pure .skip):=fun _ w=>.inr (.inl ⟨w,rfl⟩)
theorem KH (o:Oper) (h:hY o.op=true) (ρ:Operand→Value):kF (execOp ρ o):=by
 obtain ⟨dst,op,ty,pos,af,gd⟩:=o
 cases op with
 | call c =>
  obtain ⟨cal,args,ats⟩:=c
  cases cal with
  | builtin b=>cases b <;> simp [hY] at h <;> exact kF.v _
  | value f=>simp [hY] at h
  | invoke a b=>simp [hY] at h
 | nilCheck x =>
  simp only [execOp]
  split
  ·exact kF.nilDeref
  ·exact kF.nilDeref
  ·exact kF.nilDeref
  ·split
   ·exact kF.nilDeref
   ·refine kF.bind _ fun p=>kF.bind _ fun b=>?_
    split
    ·exact kF.bind _ fun _=>kF.value _
    exact kF.value _
   exact kF.value _
  exact kF.value _
 | pick c a b=>exact kF.bind _ fun _=>kF.value _
 | move x=>exact kF.value _
 | assign x=>exact kF.value _
 | store t a x=>exact kF.bind _ fun _=>kF.skip
 | mapUpdate t a x v=>exact kF.bind _ fun _=>kF.skip
 | _=>first | (simp [hY] at h;done) | exact kF.v _
def jT (ops:Array Oper) (ms:List Nat) (i:Nat):Bool :=
 (List.range ops.size).all fun t=>!(Nat.blt i t&&((ops[t]?).any fun o=>fM o.op))||(ms.getD t 0).testBit i
section
variable (P:Program) (r:Option Nat) (ops:Array Oper) (ms:List Nat) (D:List Deferred) (k:Nat) (M:Prop) (w0:World) (H0:Hp) (Hs:List Hp) (σ:aN) (L0:bX) (pp:List PanicEntry→aP)
def mR (o:Oper) (d:Nat) (E:bX) (F:bY) {α:Type} (f:α→Value) (G:α→Hp→Prop):Prop :=
 ∀ a w K,St M w0 H0 (K::Hs) σ w→aV D k a (GG (o.looksAt ops) E++L0)→KG (o.looksAt ops) F K →
  O P r ops (fun a' w'=>∃ x K',K.le K'∧St M w0 H0 (K'::Hs) σ w'∧a'.tmps[d]?=some (f x)∧a'.defers=D∧G x K') pp [o] a w
inductive DF (fin:bX→bY→Prop):Nat→List Oper→bX→bY→Prop
 | nil {i:Nat} {E:bX} {F:bY} (h:fin E F):DF fin i [] E F
 | det {i:Nat} {o:Oper} {rest:List Oper} {E:bX} {F:bY} {d:Nat} {v:Value} (hd:o.dst=some d) (hk:mR P r ops D k M w0 H0 Hs σ L0 pp o d E F (fun _:Unit=>v) (fun _ _=>True)) (h:DF fin (i+1) rest ((d,v)::E) F):DF fin i (o::rest) E F
 | und {i:Nat} {o:Oper} {rest:List Oper} {E:bX} {F:bY} {d:Nat} {α:Type} (x0:α) (f:α→Value) (G:α→Hp→Prop) (hm:kE G) (hu:jT ops ms i=true) (hd:o.dst=some d) (hk:mR P r ops D k M w0 H0 Hs σ L0 pp o d E F f G) (h:∀ x,DF fin (i+1) rest ((d,f x)::E) ((d,G x)::F)):DF fin i (o::rest) E F
 | undD {i:Nat} {o:Oper} {rest:List Oper} {E:bX} {F:bY} {d:Nat} (v:Value) (G:Hp→Prop) (hm:∀ H K,Hp.le H K→G H→G K) (hd:o.dst=some d) (hk:mR P r ops D k M w0 H0 Hs σ L0 pp o d E F (fun _:Unit=>v) (fun _=>G)) (h:DF fin (i+1) rest ((d,v)::E) ((d,G)::F)):DF fin i (o::rest) E F
inductive pH (fin:bX→bY→Prop) (ls:Array Bool) (a:Act) (K:Hp):Nat→List Oper→bX→bY→Prop
 | nil {i:Nat} {E:bX} {F:bY} (h:fin E F):pH fin ls a K i [] E F
 | doneD {i:Nat} {o:Oper} {rest:List Oper} {E:bX} {F:bY} {d:Nat} {v:Value} (hl:ls.getD i false=true) (hd:o.dst=some d) (hv:a.tmps[d]?=some v) (h:pH fin ls a K (i+1) rest ((d,v)::E) F):pH fin ls a K i (o::rest) E F
 | doneU {i:Nat} {o:Oper} {rest:List Oper} {E:bX} {F:bY} {d:Nat} {v:Value} {φ:Hp→Prop} (hl:ls.getD i false=true) (hd:o.dst=some d) (hv:a.tmps[d]?=some v) (hm:∀ H K,Hp.le H K→φ H→φ K) (hφ:φ K) (h:pH fin ls a K (i+1) rest ((d,v)::E) ((d,φ)::F)):pH fin ls a K i (o::rest) E F
 | det {i:Nat} {o:Oper} {rest:List Oper} {E:bX} {F:bY} {d:Nat} {v:Value} (hl:ls.getD i false=false) (hd:o.dst=some d) (hk:mR P r ops D k M w0 H0 Hs σ L0 pp o d E F (fun _:Unit=>v) (fun _ _=>True)) (h:pH fin ls a K (i+1) rest ((d,v)::E) F):pH fin ls a K i (o::rest) E F
 | und {i:Nat} {o:Oper} {rest:List Oper} {E:bX} {F:bY} {d:Nat} {α:Type} (x0:α) (f:α→Value) (G:α→Hp→Prop) (hl:ls.getD i false=false) (hm:kE G) (hu:jT ops ms i=true∨∀ x:α,x=x0) (hd:o.dst=some d) (hk:mR P r ops D k M w0 H0 Hs σ L0 pp o d E F f G) (h:∀ x,pH fin ls a K (i+1) rest ((d,f x)::E) ((d,G x)::F)):pH fin ls a K i (o::rest) E F
end
section
variable {P:Program} {r:Option Nat} {ops:Array Oper} {ms:List Nat} {D:List Deferred} {k:Nat} {M:Prop} {w0:World} {H0:Hp} {Hs:List Hp} {σ:aN} {L0:bX} {pp:List PanicEntry→aP} {fn:bX→bY→Prop}
theorem DF.run {ls:Array Bool} {a:Act} {K:Hp} (hls:∀ j,ls.getD j false=false) {i:Nat} {l:List Oper} {E:bX} {F:bY} (h:DF P r ops ms D k M w0 H0 Hs σ L0 pp fn i l E F):pH P r ops ms D k M w0 H0 Hs σ L0 pp fn ls a K i l E F:=by
 induction h with
 | nil h=>exact .nil h
 | det hd hk _ ih=>exact .det (hls _) hd hk ih
 | und x0 f G hm hu hd hk _ ih=>exact .und x0 f G (hls _) hm (.inl hu) hd hk ih
 | undD v G hm hd hk _ ih=>exact .und () (fun _=>v) (fun _=>G) (hls _) (fun _=>hm) (.inr fun _=>rfl) hd hk (fun _=>ih)
theorem pH.fin {ls:Array Bool} {a:Act} {K:Hp} {i:Nat} {l:List Oper} {E:bX} {F:bY} (h:pH P r ops ms D k M w0 H0 Hs σ L0 pp fn ls a K i l E F):(∀ j,i≤j→j < i+l.length→ls.getD j false=true)→(∀ q∈E,a.tmps[q.1]?=some q.2)→eW F K →
  ∃ E' F',fn E' F'∧(∀ q∈E',a.tmps[q.1]?=some q.2)∧eW F' K:=by
 induction h with
 | nil h=>exact fun _ hE hF=>⟨_,_,h,hE,hF⟩
 | doneD hl hd hv _ ih =>
  intro hall hE hF;refine ih (fun j h1 h2=>hall j (by omega) (by simp;omega)) ?_ hF;intro q hq;rcases List.mem_cons.1 hq with rfl | hq
  ·exact hv
  exact hE q hq
 | doneU hl hd hv hm hφ _ ih =>
  intro hall hE hF;refine ih (fun j h1 h2=>hall j (by omega) (by simp;omega)) ?_ ⟨hφ,hF⟩;intro q hq;rcases List.mem_cons.1 hq with rfl | hq
  ·exact hv
  exact hE q hq
 | det hl=>intro hall;exact absurd (hall _ (Nat.le_refl _) (by simp)) (by simp [hl])
 | und x0 f G hl=>intro hall;exact absurd (hall _ (Nat.le_refl _) (by simp)) (by simp [hl])
theorem kG {o:Oper} {a:Act} {N N':aP} {z:Result Next} (h2:o.uponIn (FW r) 0 P a N (Q N (fun _ _=>False) [] pp) z)
  (hput:∀ v w,N (a.put o.dst v) w→N' (a.put o.dst v) w) (hdf:∀ dd w,N ({ a with defers:=dd::a.defers }.put o.dst undef) w→N' ({ a with defers:=dd::a.defers }.put o.dst undef) w) :
  o.uponIn (FW r) 0 P a N' (Q N' (fun _ _=>False) [] pp) z:=by
 cases z with
 | ok nx w' =>
  cases nx <;> simp only [Oper.uponIn] at h2 ⊢
  case value v=>exact hput _ _ h2
  case skip=>exact hput _ _ h2
  case defer=>exact hdf _ _ h2
  case enter f args =>
   refine ⟨h2.1,h2.2.mono ?_⟩;intro e w'' he
   cases e with
   | returned v=>exact hput _ _ he
   | panicked c=>exact he
   | outgrown=>obtain ⟨a',w',h⟩:=he;exact h.elim
  case row row args=>exact ⟨h2.1,h2.2.mono fun v w'' he=>hput _ _ he⟩
  case round l f tmps assign body =>
   refine ⟨h2.1,h2.2.mono ?_⟩;intro e w'' he
   cases e with
   | returned v=>exact hput _ _ he
   | panicked c=>exact he
   | outgrown=>obtain ⟨a',w',h⟩:=he;exact h.elim
 | halt x w' =>
  cases x <;> simp only [Oper.uponIn] at h2 ⊢
  case panic v=>exact h2
theorem iF {o:Oper} {a:Act} {w:World} {N:aP}:O P r ops N pp [o] a w ↔
  (if Region.wanted o (yielded ops a.tmps) then o.uponIn (FW r) 0 P a N (Q N (fun _ _=>False) [] pp) ((o.semAt r a.eval).run P w) else N (a.put o.dst undef) w):=by
 simp only [O]
 split
 ·exact ⟨fun h=>h.2,fun h=>⟨fun _ _=>trivial,h⟩⟩
 exact Iff.rfl
theorem fN {o:Oper} {a:Act} {w:World} {N:aP} {d:Nat} (hd:o.dst=some d) (hN:∀ a' w',N a' w'→a'.defers=a.defers) (h:O P r ops N pp [o] a w) :
  O P r ops (fun a' w'=>N a' w'∧∃ u,a'=a.put (some d) u) pp [o] a w:=by
 rw [iF] at h ⊢
 split
 ·rename_i hw
  rw [if_pos hw] at h;refine kG h (fun v w h=>⟨h,v,by rw [hd]⟩) (fun dd w h=>?_);have:=hN _ _ h;rw [hd] at this;simp [Act.put] at this
 rename_i hw
 rw [if_neg hw] at h;exact ⟨h,undef,by rw [hd]⟩
theorem bJ {o:Oper} {a:Act} {w:World} {N N':aP} (h:O P r ops N pp [o] a w) (hN:∀ a w,N a w→N' a w):O P r ops N' pp [o] a w:=by
 rw [iF] at h ⊢
 split
 ·rename_i hw
  rw [if_pos hw] at h;exact kG h (fun v w h=>hN _ _ h) (fun dd w h=>hN _ _ h)
 rename_i hw
 rw [if_neg hw] at h;exact hN _ _ h
theorem mT {α:Type} {o:Oper} {a:Act} {w:World} {N:α→aP} (x0:α) (hi:hY o.op=true) (h:∀ x,O P r ops (N x) pp [o] a w) :
  O P r ops (fun a' w'=>∀ x,N x a' w') pp [o] a w:=by
 rw [iF];have hnd:∀ c,o.op≠.defer c:=fun c hc=>by rw [hc] at hi;cases hi
 split
 ·rename_i hw
  have h':∀ x,o.uponIn (FW r) 0 P a (N x) (Q (N x) (fun _ _=>False) [] pp) ((o.semAt r a.eval).run P w):=fun x=>by
   have:=h x;rw [iF,if_pos hw] at this;exact this
  rw [Oper.semAt_eq _ _ _ hnd] at h' ⊢;rcases KH o hi a.eval P w with ⟨v,w',hv⟩ | ⟨w',hv⟩ | ⟨x,w',hv⟩
  ·rw [hv] at h' ⊢;exact fun x=>h' x
  ·rw [hv] at h' ⊢;exact fun x=>h' x
  rw [hv] at h' ⊢;have:=h' x0;cases x <;> simp only [Oper.uponIn] at this ⊢
  case panic v=>exact this
 rename_i hw
 intro x;have:=h x;rw [iF,if_neg hw] at this;exact this
theorem iU {α:Type} {o:Oper} {a:Act} {w:World} {N:α→aP} (x0:α) (hi:hY o.op=true∨∀ x:α,x=x0) (h:∀ x,O P r ops (N x) pp [o] a w) :
  O P r ops (fun a' w'=>∀ x,N x a' w') pp [o] a w:=by
 rcases hi with hi | hi
 ·exact mT x0 hi h
 exact bJ (h x0) fun a' w' hx x=>by rw [hi x];exact hx
theorem St.vis_self {w:World} (h:St M w0 H0 Hs σ w):St M w0 H0 (hQ w0 H0 σ w::Hs) σ w :=
 ⟨h.h0,h.ext,fun H hH=>by
  rcases List.mem_cons.1 hH with rfl | hH
  ·exact Hp.le.refl _
  exact h.le H hH,h.own,h.apart⟩
theorem St.tail {w:World} {H:Hp} (h:St M w0 H0 (H::Hs) σ w):St M w0 H0 Hs σ w:=⟨h.h0,h.ext,fun K hK=>h.le K (List.mem_cons_of_mem _ hK),h.own,h.apart⟩
def uH (P:Program) (r:Option Nat) (ops:Array Oper) (ms:List Nat) (D:List Deferred) (k:Nat) (M:Prop) (w0:World) (H0:Hp) (Hs:List Hp) (σ:aN) (L0:bX) (pp:List PanicEntry→aP) (fn:bX→bY→Prop) (ls':Array Bool) (d:Nat) (a:Act) (K:Hp) (j:Nat) (rest:List Oper) (E:bX) (F:bY):aP:=fun a' w' =>
 (∃ u,a'=a.put (some d) u)∧St M w0 H0 (hQ w0 H0 σ w'::Hs) σ w'∧K.le (hQ w0 H0 σ w')∧pH P r ops ms D k M w0 H0 Hs σ L0 pp fn ls' a' (hQ w0 H0 σ w') j rest E F
theorem dV {a:Act} {d di:Nat} {u:Value} (h:d≠di):(a.put (some di) u).tmps[d]?=a.tmps[d]?:=by
 simp only [Act.put];exact Array.getElem?_setIfInBounds_ne (Ne.symm h)
theorem pH.later {ls:Array Bool} {a:Act} {K K':Hp} {i m di:Nat} {u:Value} (hK:K.le K') (hdst:∀ t o d,t < m→t≠i→ops[t]?=some o→o.dst=some d→d≠di) {j:Nat} {rest:List Oper} {E:bX} {F:bY}
  (h:pH P r ops ms D k M w0 H0 Hs σ L0 pp fn ls a K j rest E F):i < j→j+rest.length=m→(∀ t,t < rest.length→rest[t]?=ops[j+t]?) →
  pH P r ops ms D k M w0 H0 Hs σ L0 pp fn (ls.setIfInBounds i true) (a.put (some di) u) K' j rest E F:=by
 induction h with
 | nil h=>exact fun _ _ _=>.nil h
 | @doneD j o rest E F d v hl hd hv _ ih =>
  intro h1 h2 h3;have ho:ops[j]?=some o:=by have:=h3 0 (by simp);simpa using this.symm
  have hne:=hdst j o d (by simp at h2;omega) (by omega) ho hd;refine .doneD (by rw [getD_set_ne false (by omega)];exact hl) hd (by rw [dV hne];exact hv) (ih (by omega) (by simp at h2;omega) (fun t ht=>?_));have:=h3 (t+1) (by simpa using ht);simpa [Nat.add_assoc,Nat.add_comm 1 t] using this
 | @doneU j o rest E F d v φ hl hd hv hm hφ _ ih =>
  intro h1 h2 h3;have ho:ops[j]?=some o:=by have:=h3 0 (by simp);simpa using this.symm
  have hne:=hdst j o d (by simp at h2;omega) (by omega) ho hd;refine .doneU (by rw [getD_set_ne false (by omega)];exact hl) hd (by rw [dV hne];exact hv) hm (hm _ _ hK hφ) (ih (by omega) (by simp at h2;omega) (fun t ht=>?_));have:=h3 (t+1) (by simpa using ht);simpa [Nat.add_assoc,Nat.add_comm 1 t] using this
 | det hl hd hk _ ih =>
  intro h1 h2 h3;refine .det (by rw [getD_set_ne false (by omega)];exact hl) hd hk (ih (by omega) (by simp at h2;omega) (fun t ht=>?_));have:=h3 (t+1) (by simpa using ht);simpa [Nat.add_assoc,Nat.add_comm 1 t] using this
 | und x0 f G hl hm hu hd hk _ ih =>
  intro h1 h2 h3;refine .und x0 f G (by rw [getD_set_ne false (by omega)];exact hl) hm hu hd hk (fun x=>ih x (by omega) (by simp at h2;omega) (fun t ht=>?_));have:=h3 (t+1) (by simpa using ht);simpa [Nat.add_assoc,Nat.add_comm 1 t] using this
theorem jM {a:Act} {s:List Nat} {E:bX} (hA0:aV D k a L0) (hE:∀ q∈E,q.1∈s→a.tmps[q.1]?=some q.2):aV D k a (GG s E++L0):=by
 refine ⟨hA0.defers,hA0.size,fun i v hi=>?_⟩;rcases jD hi with h | h
 ·have:=List.mem_filter.1 h;exact hE (i,v) this.1 (by simpa using this.2)
 exact hA0.get i v h
theorem pH.step {ls:Array Bool} {a:Act} {w:World} {K:Hp} {i m di:Nat} {oi:Oper} (hS:St M w0 H0 (K::Hs) σ w) (hA0:aV D k a L0) (hoi:ops[i]?=some oi) (hdi:oi.dst=some di) (hdk:di < k) (hli:ls.getD i false=false) (hsz:i < ls.size) (hop:hY oi.op=true∨fM oi.op=true)
  (hdep:∀ t o d,t < m→ops[t]?=some o→o.dst=some d→d∈oi.looksAt ops→ls.getD t false=true) (hdst:∀ t o d,t < m→t≠i→ops[t]?=some o→o.dst=some d→d≠di)
  (hcl:fM oi.op=true→∀ t,t < i→jT ops ms t=true→ls.getD t false=true)
  {j:Nat} {rest:List Oper} {E:bX} {F:bY} (h:pH P r ops ms D k M w0 H0 Hs σ L0 pp fn ls a K j rest E F) :
  j≤i→i < m→j+rest.length=m→(∀ t,t < rest.length→rest[t]?=ops[j+t]?)→(∀ q∈E,q.1∈oi.looksAt ops→a.tmps[q.1]?=some q.2)→KG (oi.looksAt ops) F K →
  O P r ops (uH P r ops ms D k M w0 H0 Hs σ L0 pp fn (ls.setIfInBounds i true) di a K j rest E F) pp [oi] a w:=by
 have hls:(ls.setIfInBounds i true).getD i false=true:=by simp [hsz]
 induction h with
 | nil h=>intro h1 h2 h3;simp at h3;omega
 | @doneD j o rest E F d v hl hd hv hrest ih =>
  intro h1 h2 h3 h4 hE hF;have hji:j≠i:=fun e=>by subst e;rw [hli] at hl;cases hl
  have ho:ops[j]?=some o:=by have:=h4 0 (by simp);simpa using this.symm
  have hne:=hdst j o d (by omega) hji ho hd;refine bJ (ih (by omega) h2 (by simp at h3;omega) (fun t ht=>?_) ?_ hF) ?_
  ·have:=h4 (t+1) (by simpa using ht);simpa [Nat.add_assoc,Nat.add_comm 1 t] using this
  ·intro q hq hqs;rcases List.mem_cons.1 hq with rfl | hq
   ·exact hv
   exact hE q hq hqs
  rintro a' w' ⟨⟨u,rfl⟩,hs,hk,hr⟩;exact ⟨⟨u,rfl⟩,hs,hk,.doneD (by rw [getD_set_ne false (Ne.symm hji)];exact hl) hd (by rw [dV hne];exact hv) hr⟩
 | @doneU j o rest E F d v φ hl hd hv hm hφ hrest ih =>
  intro h1 h2 h3 h4 hE hF;have hji:j≠i:=fun e=>by subst e;rw [hli] at hl;cases hl
  have ho:ops[j]?=some o:=by have:=h4 0 (by simp);simpa using this.symm
  have hne:=hdst j o d (by omega) hji ho hd;refine bJ (ih (by omega) h2 (by simp at h3;omega) (fun t ht=>?_) ?_ ⟨fun _=>hφ,hF⟩) ?_
  ·have:=h4 (t+1) (by simpa using ht);simpa [Nat.add_assoc,Nat.add_comm 1 t] using this
  ·intro q hq hqs;rcases List.mem_cons.1 hq with rfl | hq
   ·exact hv
   exact hE q hq hqs
  rintro a' w' ⟨⟨u,rfl⟩,hs,hk,hr⟩;exact ⟨⟨u,rfl⟩,hs,hk,.doneU (by rw [getD_set_ne false (Ne.symm hji)];exact hl) hd (by rw [dV hne];exact hv) hm (hm _ _ hk hφ) hr⟩
 | @det j o rest E F d v hl hd hk hrest ih =>
  intro h1 h2 h3 h4 hE hF;have ho:ops[j]?=some o:=by have:=h4 0 (by simp);simpa using this.symm
  have h4':∀ t,t < rest.length→rest[t]?=ops[j+1+t]?:=fun t ht=>by have:=h4 (t+1) (by simpa using ht);simpa [Nat.add_assoc,Nat.add_comm 1 t] using this
  by_cases hji:j=i
  ·subst hji;obtain rfl:o=oi:=Option.some.inj (ho.symm.trans hoi);obtain rfl:d=di:=Option.some.inj (hd.symm.trans hdi);refine bJ (fN hd (fun a' w' h=>?_) (hk a w K hS (jM hA0 hE) hF)) ?_
   ·obtain ⟨_,_,_,_,_,h,_⟩:=h;exact h.trans hA0.defers.symm
   rintro a' w' ⟨⟨x,K',hle,hs,hv,_,_⟩,u,rfl⟩;have hKv:K.le (hQ w0 H0 σ w'):=hle.trans (hs.le K' List.mem_cons_self);exact ⟨⟨u,rfl⟩,hs.tail.vis_self,hKv,.doneD hls hd hv (pH.later hKv hdst hrest (by omega) (by simp at h3;omega) h4')⟩
  have hdn:d∉oi.looksAt ops:=fun hm=>by
   have:=hdep j o d (by omega) ho hd hm;rw [hl] at this;cases this
  refine bJ (ih (by omega) h2 (by simp at h3;omega) h4' ?_ hF) ?_
  ·intro q hq hqs;rcases List.mem_cons.1 hq with rfl | hq
   ·exact absurd hqs hdn
   exact hE q hq hqs
  rintro a' w' ⟨⟨u,rfl⟩,hs,hkk,hr⟩;exact ⟨⟨u,rfl⟩,hs,hkk,.det (by rw [getD_set_ne false (Ne.symm hji)];exact hl) hd hk hr⟩
 | @und j o rest E F d α x0 f G hl hm hu hd hk hrest ih =>
  intro h1 h2 h3 h4 hE hF;have ho:ops[j]?=some o:=by have:=h4 0 (by simp);simpa using this.symm
  have h4':∀ t,t < rest.length→rest[t]?=ops[j+1+t]?:=fun t ht=>by have:=h4 (t+1) (by simpa using ht);simpa [Nat.add_assoc,Nat.add_comm 1 t] using this
  by_cases hji:j=i
  ·subst hji;obtain rfl:o=oi:=Option.some.inj (ho.symm.trans hoi);obtain rfl:d=di:=Option.some.inj (hd.symm.trans hdi);refine bJ (fN hd (fun a' w' h=>?_) (hk a w K hS (jM hA0 hE) hF)) ?_
   ·obtain ⟨_,_,_,_,_,h,_⟩:=h;exact h.trans hA0.defers.symm
   rintro a' w' ⟨⟨x,K',hle,hs,hv,_,hG⟩,u,rfl⟩;have hKv:K.le (hQ w0 H0 σ w'):=hle.trans (hs.le K' List.mem_cons_self);exact ⟨⟨u,rfl⟩,hs.tail.vis_self,hKv,.doneU hls hd hv (fun A B h=>hm x A B h) (hm x _ _ (hs.le K' List.mem_cons_self) hG) (pH.later hKv hdst (hrest x) (by omega) (by simp at h3;omega) h4')⟩
  have hlt:j < i:=by omega
  have himm:hY oi.op=true∨∀ x:α,x=x0:=by
   rcases hop with h | h
   ·exact .inl h
   rcases hu with hu | hu
   ·have:=hcl h j hlt hu;rw [hl] at this;cases this
   exact .inr hu
  have hdn:d∉oi.looksAt ops:=fun hmm=>by
   have:=hdep j o d (by omega) ho hd hmm;rw [hl] at this;cases this
  refine bJ (iU (N:=fun x=>uH P r ops ms D k M w0 H0 Hs σ L0 pp fn (ls.setIfInBounds i true) di a K (j+1) rest ((d,f x)::E) ((d,G x)::F)) x0 himm (fun x=>ih x (by omega) h2 (by simp at h3;omega) h4' ?_ ⟨fun hc=>absurd (by simpa using hc) hdn,hF⟩)) ?_
  ·intro q hq hqs;rcases List.mem_cons.1 hq with rfl | hq
   ·exact absurd hqs hdn
   exact hE q hq hqs
  intro a' w' hx;obtain ⟨hu1,hs,hkk,_⟩:=hx x0;refine ⟨hu1,hs,hkk,.und x0 f G (by rw [getD_set_ne false (Ne.symm hji)];exact hl) hm hu hd hk (fun x=>(hx x).2.2.2)⟩
end
end Pk
namespace Pk
open Go
def AA (o:Oper) (acc:List Nat):Nat:=o.after.toList.foldl (fun s e=>if Region.binds .any e then s ||| 2 ^ e.on ||| acc.getD e.on 0 else s) 0
def eY:List Oper→List Nat→List Nat
 | [],acc=>acc
 | o::rest,acc=>eY rest (acc++[AA o acc])
def pX (ops:List Oper):List Nat:=ops.filterMap (·.dst)
def rD:List Nat→Bool
 | []=>true
 | d::l=>!l.contains d&&rD l
def tB (all:List Oper) (m k:Nat) (keys:List Nat):Bool :=
 let ops:=all.toArray
 let ms:=eY all []
 ((all.take m).all fun o=>match o.dst with
  | some d=>Nat.blt d k&&!keys.contains d&&(hY o.op||fM o.op)
  | none=>false) &&
 rD (pX (all.take m)) &&
 ((all.take m).all fun o=>(List.range m).all fun t=>match (ops[t]?).bind (·.dst) with
  | some d=>!(o.looksAt ops).contains d||o.after.any fun e=>Region.binds .any e&&Nat.beq e.on t
  | none=>true) &&
 (all.zipIdx.all fun (o,i)=>o.after.all fun e=>!Region.binds .any e||Nat.blt e.on i) &&
 ((List.range all.length).all fun i=>Nat.blt i m||(List.range i).all fun t=>(ms.getD i 0).testBit t)
section
variable {P:Program} {r:Option Nat} {n rt:aP} {e:List (Nat×aP)} {p:List PanicEntry→aP} {ops:Array Oper}
theorem BT {o:Oper} {acc:List Nat} {t:Nat} (h:(AA o acc).testBit t=true):∃ x∈o.after.toList,Region.binds .any x=true∧(x.on=t∨(acc.getD x.on 0).testBit t=true):=by
 unfold AA at h;have key:∀ (l:List Edge) (s:Nat),(l.foldl (fun s e=>if Region.binds .any e then s ||| 2 ^ e.on ||| acc.getD e.on 0 else s) s).testBit t=true→s.testBit t=true∨∃ x∈l,Region.binds .any x=true∧(x.on=t∨(acc.getD x.on 0).testBit t=true):=by
  intro l
  induction l with
  | nil=>intro s h;exact .inl h
  | cons x l ih =>
   intro s h;simp only [List.foldl_cons] at h;rcases ih _ h with h | ⟨y,hy,h⟩
   ·by_cases hb:Region.binds .any x=true
    ·rw [if_pos hb] at h;simp only [Nat.testBit_or,Bool.or_eq_true,Nat.testBit_two_pow,decide_eq_true_eq] at h;rcases h with (h | h) | h
     ·exact .inl h
     ·exact .inr ⟨x,List.mem_cons_self,hb,.inl h⟩
     exact .inr ⟨x,List.mem_cons_self,hb,.inr h⟩
    rw [if_neg hb] at h;exact .inl h
   exact .inr ⟨y,List.mem_cons_of_mem _ hy,h⟩
 rcases key _ _ h with h | h
 ·simp at h
 exact h
theorem uI:∀ (l:List Oper) (acc:List Nat) (i:Nat),(i < acc.length→(eY l acc)[i]?=acc[i]?)∧(∀ o,l[i]?=some o→∃ b,(eY l acc)[acc.length+i]?=some (AA o b)∧b=(eY l acc).take (acc.length+i))
 | [],acc,i=>⟨fun _=>rfl,fun o h=>by simp at h⟩
 | o::l,acc,i=>by
  have ih:=uI l (acc++[AA o acc]);refine ⟨fun h=>?_,fun o' ho=>?_⟩
  ·simp only [eY];rw [(ih i).1 (by simp;omega),List.getElem?_append_left h]
  have hpre:∀ t,t < acc.length+1→(eY (o::l) acc)[t]?=(acc++[AA o acc])[t]?:=fun t ht=>by simp only [eY];exact (ih t).1 (by simp;omega)
  cases i with
  | zero =>
   simp at ho;subst ho;refine ⟨acc,?_,?_⟩
   ·rw [Nat.add_zero,hpre _ (by omega)];simp
   rw [Nat.add_zero];apply List.ext_getElem?;intro t;rw [List.getElem?_take]
   split
   ·rename_i ht;rw [hpre t (by omega),List.getElem?_append_left ht]
   rename_i ht;exact List.getElem?_eq_none (by omega)
  | succ i =>
   obtain ⟨b,h1,h2⟩:=(ih i).2 o' (by simpa using ho);refine ⟨b,?_,?_⟩
   ·simp only [eY];rw [← h1];congr 1;simp;omega
   simp only [eY];rw [h2];congr 1;simp;omega
theorem jN {all:List Oper} {ls:Array Bool} (hclosed:∀ i o,ls.getD i false=true→all[i]?=some o→∀ x∈o.after,Region.binds .any x=true→ls.getD x.on false=true) :
  ∀ (i:Nat) (o:Oper),all[i]?=some o→(∀ x∈o.after,Region.binds .any x=true→ls.getD x.on false=true)→∀ t,((eY all []).getD i 0).testBit t=true→ls.getD t false=true:=by
 intro i
 induction i using Nat.strongRecOn with
 | _ i ih =>
  intro o ho hd t ht;obtain ⟨b,h1,h2⟩:=(uI all [] i).2 o ho;simp only [List.length_nil,Nat.zero_add] at h1 h2;rw [List.getD_eq_getElem?_getD,h1,Option.getD_some] at ht;obtain ⟨x,hx,hb,hc⟩:=BT ht;have hxl:=hd x (by simpa using hx) hb;rcases hc with rfl | hc
  ·exact hxl
  rw [h2,List.getD_eq_getElem?_getD,List.getElem?_take] at hc
  split at hc
  ·rename_i hlt
   cases hox:all[x.on]? with
   | none =>
    have:(eY all [])[x.on]?=none:=by
     have hlen:all.length≤x.on:=by simpa using hox
     have:=(List.getElem?_eq_some_iff.1 ho).1;omega
    rw [this] at hc;simp at hc
   | some o' =>
    exact ih x.on hlt o' hox (hclosed x.on o' hxl hox) t (by rw [List.getD_eq_getElem?_getD];exact hc)
  simp at hc
theorem tC:∀ {l:List Oper} {t i:Nat} {o o':Oper} {d:Nat},rD (pX l)=true→l[t]?=some o→l[i]?=some o'→o.dst=some d→o'.dst=some d→t=i
 | [],t,i,o,o',d,_,h,_,_,_=>by simp at h
 | x::l,t,i,o,o',d,hu,ht,hi,hd,hd'=>by
  have hmem:∀ (j:Nat) (y:Oper),l[j]?=some y→y.dst=some d→d∈pX l:=fun j y hy hyd=>List.mem_filterMap.2 ⟨y,List.mem_of_getElem? hy,hyd⟩
  cases t with
  | zero =>
   cases i with
   | zero=>rfl
   | succ i =>
    simp at ht hi;subst ht;have hu2:rD (d::pX l)=true:=by simpa only [pX,List.filterMap_cons,hd] using hu
    rw [rD,Bool.and_eq_true,Bool.not_eq_true',List.contains_eq_mem,decide_eq_false_iff_not] at hu2;exact absurd (hmem i o' hi hd') hu2.1
  | succ t =>
   cases i with
   | zero =>
    simp at ht hi;subst hi;have hu2:rD (d::pX l)=true:=by simpa only [pX,List.filterMap_cons,hd'] using hu
    rw [rD,Bool.and_eq_true,Bool.not_eq_true',List.contains_eq_mem,decide_eq_false_iff_not] at hu2;exact absurd (hmem t o ht hd) hu2.1
   | succ i =>
    simp at ht hi;have hu':rD (pX l)=true:=by
     cases hx:x.dst with
     | none=>simpa [pX,hx] using hu
     | some c=>simp only [pX,List.filterMap_cons,hx,rD,Bool.and_eq_true] at hu;exact hu.2
    rw [tC hu' ht hi hd hd']
theorem pY {o:Oper} {a:Act} {N K:aP} {Q1 Q2:Exit→Act→World→Prop} {z:Result Next} (h2:o.uponIn (FW r) 0 P a N Q1 z)
  (hK:∀ a w,N a w→K a w) (hp:∀ c a w,Q1 (.panic c) a w→Q2 (.panic c) a w) (ho:¬LetsOut Q1):o.uponIn (FW r) 0 P a K Q2 z:=by
 cases z with
 | ok nx w' =>
  cases nx <;> simp only [Oper.uponIn] at h2 ⊢
  case value v=>exact hK _ _ h2
  case skip=>exact hK _ _ h2
  case defer=>exact hK _ _ h2
  case enter f args =>
   refine ⟨h2.1,h2.2.mono ?_⟩;intro e w'' he
   cases e with
   | returned v=>exact hK _ _ he
   | panicked c=>exact hp _ _ _ he
   | outgrown=>exact absurd he ho
  case row row args=>exact ⟨h2.1,h2.2.mono fun v w'' he=>hK _ _ he⟩
  case round l f tmps assign body =>
   refine ⟨h2.1,h2.2.mono ?_⟩;intro e w'' he
   cases e with
   | returned v=>exact hK _ _ he
   | panicked c=>exact hp _ _ _ he
   | outgrown=>exact absurd he ho
 | halt x w' =>
  cases x <;> simp only [Oper.uponIn] at h2 ⊢
  case panic v=>exact hp _ _ _ h2
theorem BU {n rt:aP} {e:List (Nat×aP)} {p:List PanicEntry→aP}:¬LetsOut (Q n rt e p):=by
 rintro ⟨a,w,h⟩;exact h
theorem iO {i:Nat} {o:Oper} {a:Act} {w:World} {N K:aP} (ho:ops[i]?=some o) {pp:List PanicEntry→aP} (hpp:∀ c a w,pp c a w→p c a w) (h:O P r ops N pp [o] a w) (hK:∀ a w,N a w→K a w):wpOpIn (FW r) 0 P ops (Q n rt e p) i K a w:=by
 unfold wpOpIn;rw [ho];rw [iF] at h;show if _ then _ else _
 split
 ·rename_i hw
  rw [if_pos hw] at h;exact ⟨fun _ _=>trivial,pY h hK (fun c a w h=>hpp _ _ _ h) BU⟩
 rename_i hw
 rw [if_neg hw] at h;exact ⟨fun _ _=>trivial,hK _ _ h⟩
theorem kV {i:Nat} {o:Oper} {rest:List Oper} {a:Act} {w:World} {K:aP} (ho:ops[i]?=some o) (h:O P r ops n p (o::rest) a w) (hK:∀ a w,O P r ops n p rest a w→K a w):wpOpIn (FW r) 0 P ops (Q n rt e p) i K a w:=by
 unfold wpOpIn;rw [ho];simp only [O] at h;show if _ then _ else _
 split
 ·rename_i hw
  rw [if_pos hw] at h;exact ⟨fun _ _=>trivial,pY h.2 hK (fun c a w h=>h) BU⟩
 rename_i hw
 rw [if_neg hw] at h;exact ⟨fun _ _=>trivial,hK _ _ h⟩
def uJ (ls:Array Bool) (N:Nat):Nat:=(List.range N).countP (fun t=>!ls.getD t false)
theorem mU {ls:Array Bool} {N i:Nat} (hi:i < N) (hs:i < ls.size) (hl:ls.getD i false=false):uJ (ls.setIfInBounds i true) N+1≤uJ ls N:=by
 unfold uJ;have hx:∀ t,(ls.setIfInBounds i true).getD t false=(if t=i then true else ls.getD t false):=fun t=>by
  by_cases e:t=i
  ·subst e;simp [hs]
  rw [if_neg e,getD_set_ne false (Ne.symm e)]
 have h1:(List.range N).countP (fun t=>!ls.getD t false)=(List.range N).countP (fun t=>!(ls.setIfInBounds i true).getD t false)+(List.range N).countP (fun t=>decide (t=i)):=by
  have:∀ (l:List Nat),l.countP (fun t=>!ls.getD t false)=l.countP (fun t=>!(ls.setIfInBounds i true).getD t false)+l.countP (fun t=>decide (t=i)):=by
   intro l
   induction l with
   | nil=>rfl
   | cons t l ih =>
    simp only [List.countP_cons,ih,hx];by_cases e:t=i
    ·subst e;simp [hl];omega
    simp [e];omega
  exact this _
 have h2:1≤(List.range N).countP (fun t=>decide (t=i)):=by
  rw [Nat.one_le_iff_ne_zero,Ne,List.countP_eq_zero];intro h;exact h i (List.mem_range.2 hi) (by simp)
 omega
theorem uK {ls:Array Bool} {N:Nat} (h:uJ ls N=0):∀ t,t < N→ls.getD t false=true:=by
 intro t ht;unfold uJ at h;rw [List.countP_eq_zero] at h;have:=h t (List.mem_range.2 ht);simpa using this
variable {D:List Deferred} {k:Nat} {M:Prop} {w0:World} {H0:Hp} {Hs:List Hp} {σ:aN} {L0:bX} {pp:List PanicEntry→aP}
structure JA (all:List Oper) (m k:Nat) (L0:bX):Prop where
 pre:∀ t o,t < m→all[t]?=some o→∃ d,o.dst=some d∧d < k∧(∀ v,(d,v)∉L0)∧(hY o.op=true∨fM o.op=true)
 uni:∀ t i o o' d,t < m→i < m→all[t]?=some o→all[i]?=some o'→o.dst=some d→o'.dst=some d→t=i
 dep:∀ t i o o' d,t < m→i < m→all[t]?=some o→all[i]?=some o'→o.dst=some d→d∈o'.looksAt all.toArray→∃ x∈o'.after,Region.binds .any x=true∧x.on=t
 edge:∀ i o,all[i]?=some o→∀ x∈o.after,Region.binds .any x=true→x.on < i
 suf:∀ i,m≤i→i < all.length→∀ t,t < i→((eY all []).getD i 0).testBit t=true
theorem OV {all:List Oper} {m k:Nat} {L0:bX} (h:tB all m k (L0.map (·.1))=true):JA all m k L0:=by
 unfold tB at h;simp only [Bool.and_eq_true,List.all_eq_true] at h;obtain ⟨⟨⟨⟨h1,h2⟩,h3⟩,h4⟩,h5⟩:=h;have hmem:∀ t o,t < m→all[t]?=some o→o∈all.take m:=fun t o ht ho=>List.mem_of_getElem? (i:=t) (by rw [List.getElem?_take,if_pos ht];exact ho);refine ⟨?_,?_,?_,?_,?_⟩
 ·intro t o ht ho;have:=h1 o (hmem t o ht ho)
  cases hd:o.dst with
  | none=>simp [hd] at this
  | some d =>
   simp only [hd,Bool.and_eq_true,Bool.or_eq_true,Bool.not_eq_true'] at this;obtain ⟨⟨ha,hb⟩,hc⟩:=this;refine ⟨d,rfl,by simpa [Nat.blt_eq] using ha,?_,hc⟩;intro v hv;have h1:d∈L0.map (·.1):=List.mem_map.2 ⟨(d,v),hv,rfl⟩;have hb':(L0.map (·.1)).contains d=true:=by rw [List.contains_eq_mem];exact decide_eq_true h1
   rw [hb] at hb';cases hb'
 ·intro t i o o' d ht hi ho ho' hd hd';exact tC h2 (by rw [List.getElem?_take,if_pos ht];exact ho) (by rw [List.getElem?_take,if_pos hi];exact ho') hd hd'
 ·intro t i o o' d ht hi ho ho' hd hl;have:=h3 o' (hmem i o' hi ho') t (List.mem_range.2 ht);have hto:(all.toArray[t]?).bind (·.dst)=some d:=by simp [ho,hd]
  simp only [hto,Bool.or_eq_true,Bool.not_eq_true'] at this;rcases this with h | h
  ·exact absurd (by simpa using hl) (by simpa using h)
  obtain ⟨j,hj,hb⟩:=Array.any_eq_true.1 h;rw [Bool.and_eq_true] at hb;exact ⟨o'.after[j],Array.getElem_mem hj,hb.1,Nat.eq_of_beq_eq_true hb.2⟩
 ·intro i o ho x hx hb;have:=h4 (o,i) (List.mem_zipIdx_iff_getElem?.2 ho);have:=Array.all_eq_true_iff_forall_mem.1 this x hx;simp only [hb,Bool.not_true,Bool.false_or] at this;simpa [Nat.blt_eq] using this
 intro i h1 h2 t ht;have:=h5 i (List.mem_range.2 h2);simp only [Bool.or_eq_true,List.all_eq_true] at this;rcases this with h | h
 ·have:i < m:=by simpa [Nat.blt_eq] using h
  omega
 exact h t (List.mem_range.2 ht)
theorem rQ {all:List Oper} {ls:Array Bool} (hsz:ls.size=all.length) (hedge:∀ i o,all[i]?=some o→∀ x∈o.after,Region.binds .any x=true→x.on < i) (hr:Region.ready .any all.toArray ls=[]):∀ t,t < all.length→ls.getD t false=true:=by
  intro t
  induction t using Nat.strongRecOn with
  | _ t ih =>
    intro ht
    cases hl:ls.getD t false with
    | true=>rfl
    | false =>
      exfalso;have hm:t∈Region.ready .any all.toArray ls:=by
        rw [mem_ready]
        refine ⟨by have h1:t < ls.size := by omega
                   simp [h1] at hl ⊢;exact hl,all[t],by simp [ht],fun x hx hb=>?_⟩
        have:=hedge t all[t] (List.getElem?_eq_getElem ht) x hx hb;exact ih x.on this (by omega)
      rw [hr] at hm;cases hm
theorem wW {all:List Oper} {m:Nat} (hpp:∀ c a w,pp c a w→p c a w) (hok:JA all m k L0) (hm:m≤all.length) (fn:bX→bY→Prop)
    (hfn:∀ E F,fn E F→∀ a w K,St M w0 H0 (K::Hs) σ w→aV D k a (E++L0)→eW F K→O P r all.toArray n p (all.drop m) a w) :
    ∀ (fuel:Nat) (ls:Array Bool) (a:Act) (w:World), ls.size=all.length→uJ ls all.length≤fuel →
      (∀ i o,ls.getD i false=true→all[i]?=some o→∀ x∈o.after,Region.binds .any x=true→ls.getD x.on false=true) →
      (((∀ t,m≤t→ls.getD t false=false)∧∃ K,St M w0 H0 (K::Hs) σ w∧aV D k a L0∧pH P r all.toArray (eY all []) D k M w0 H0 Hs σ L0 pp fn ls a K 0 (all.take m) [] []) ∨
       (∃ i,m≤i∧i≤all.length∧(∀ t,t < i→ls.getD t false=true)∧(∀ t,i≤t→ls.getD t false=false)∧O P r all.toArray n p (all.drop i) a w)) →
      wpAnyIn (FW r) 0 P .any all.toArray (Q n rt e p) fuel ls a w:=by
  have hend:∀ (ls:Array Bool) (a:Act) (w:World),ls.size=all.length→(∀ t,t < all.length→ls.getD t false=true) →
      (((∀ t,m≤t→ls.getD t false=false)∧∃ K,St M w0 H0 (K::Hs) σ w∧aV D k a L0∧pH P r all.toArray (eY all []) D k M w0 H0 Hs σ L0 pp fn ls a K 0 (all.take m) [] []) ∨
       (∃ i,m≤i∧i≤all.length∧(∀ t,t < i→ls.getD t false=true)∧(∀ t,i≤t→ls.getD t false=false)∧O P r all.toArray n p (all.drop i) a w))→n a w:=by
    intro ls a w _ hall h;rcases h with ⟨h1,K,hS,hA,hR⟩ | ⟨i,h1,h2,h3,h4,h5⟩
    · have hmN:m=all.length:=by
        rcases Nat.lt_or_ge m all.length with h | h
        · have:=hall m h;rw [h1 m (Nat.le_refl _)] at this;cases this
        omega
      obtain ⟨E,F,hf,hE,hF⟩:=hR.fin (fun j _ hj=>hall j (by simp at hj;omega)) (fun q hq=>by simp at hq) trivial
      have:=hfn E F hf a w K hS ⟨hA.defers,hA.size,fun i v hi=>by
        rcases jD hi with h | h
        · exact hE (i,v) h
        exact hA.get i v h⟩ hF
      rw [hmN,List.drop_length] at this;exact this
    have hiN:i=all.length:=by
      rcases Nat.lt_or_ge i all.length with h | h
      · have:=hall i h;rw [h4 i (Nat.le_refl _)] at this;cases this
      omega
    rw [hiN,List.drop_length] at h5;exact h5
  have hfin:∀ (ls:Array Bool) (a:Act) (w:World) (K:Hp),St M w0 H0 (K::Hs) σ w→aV D k a L0→(∀ t,t < m→ls.getD t false=true)→pH P r all.toArray (eY all []) D k M w0 H0 Hs σ L0 pp fn ls a K 0 (all.take m) [] []→O P r all.toArray n p (all.drop m) a w:=by
    intro ls a w K hS hA hall hR;obtain ⟨E,F,hf,hE,hF⟩:=hR.fin (fun j _ hj=>hall j (by simp at hj;omega)) (fun q hq=>by simp at hq) trivial
    exact hfn E F hf a w K hS ⟨hA.defers,hA.size,fun i v hi=>by
      rcases jD hi with h | h
      · exact hE (i,v) h
      exact hA.get i v h⟩ hF
  intro fuel
  induction fuel with
  | zero =>
    intro ls a w hsz hu hcl h;have hall:=uK (Nat.le_zero.1 hu);refine ⟨?_,hend ls a w hsz hall h⟩;rw [List.eq_nil_iff_forall_not_mem];intro t ht;rw [mem_ready] at ht;obtain ⟨h0,o,ho,_⟩:=ht;have hlt:t < all.length:=by have:=(Array.getElem?_eq_some_iff.1 ho).1;simpa using this
    have:=hall t hlt;have h1:t < ls.size:=by omega
    simp [h1] at h0 this;rw [h0] at this;cases this
  | succ fuel ih =>
    intro ls a w hsz hu hcl h;refine ⟨fun hr=>hend ls a w hsz (rQ hsz hok.edge hr) h,fun i hi=>?_⟩;rw [mem_ready] at hi;obtain ⟨h0,oi,hoi,hdeps⟩:=hi;have hoi':all[i]?=some oi:=by simpa using hoi
    have hlt:i < all.length:=(List.getElem?_eq_some_iff.1 hoi').1;have hls:i < ls.size:=by omega
    have hli:ls.getD i false=false:=by simp [hls] at h0 ⊢;exact h0
    have hcl':∀ j o,(ls.setIfInBounds i true).getD j false=true→all[j]?=some o→∀ x∈o.after,Region.binds .any x=true→(ls.setIfInBounds i true).getD x.on false=true:=by
      intro j o hj ho x hx hb;by_cases hji:j=i
      · subst hji;obtain rfl:o=oi:=Option.some.inj (ho.symm.trans hoi');exact getD_set_true (hdeps x hx hb)
      rw [getD_set_ne false (Ne.symm hji)] at hj;exact getD_set_true (hcl j o hj ho x hx hb)
    have hu':uJ (ls.setIfInBounds i true) all.length≤fuel:=by have:=mU hlt hls hli;omega
    have hsz':(ls.setIfInBounds i true).size=all.length:=by simp [hsz]
    have hset:(ls.setIfInBounds i true).getD i false=true:=by simp [hls]
    have hml:=jN (all:=all) (ls:=ls) hcl i oi hoi' hdeps;rcases h with ⟨h1,K,hS,hA,hR⟩ | ⟨j,h1,h2,h3,h4,h5⟩
    · by_cases him:i < m
      · -- one of the first
        obtain ⟨di,hdi,hdk,hnk,hop⟩:=hok.pre i oi him hoi';have hstep:=pH.step (P:=P) (r:=r) (fn:=fn) hS hA hoi hdi hdk hli hls hop
          (m:=m) (fun t o d ht ho hd hl=>by
            obtain ⟨x,hx,hb,rfl⟩:=hok.dep t i o oi d ht him (by simpa using ho) hoi' hd hl
            exact hdeps x hx hb)
          (fun t o d ht hti ho hd=>fun e=>by subst e;exact hti (hok.uni t i o oi d ht him (by simpa using ho) hoi' hd hdi))
          (fun hc t ht hut=>hml t (by
            unfold jT at hut;have:=List.all_eq_true.1 hut i (List.mem_range.2 (by simpa using hlt));have hb:Nat.blt t i=true:=by rw [Nat.blt_eq];exact ht
            simp only [hoi,Option.any_some,hc,hb,Bool.and_true,Bool.not_true,Bool.false_or] at this
            exact this))
          hR (Nat.zero_le _) him (by simp;omega) (fun t ht=>by
            simp only [List.length_take] at ht
            rw [List.getElem?_take,if_pos (by omega)];simp) (fun q hq=>by simp at hq) trivial
        refine iO hoi hpp hstep ?_;rintro a' w' ⟨⟨u,rfl⟩,hs,hk,hr⟩;refine ih _ _ _ hsz' hu' hcl' (.inl ⟨fun t ht=>?_,_,hs,?_,hr⟩)
        · rw [getD_set_ne false (by omega)];exact h1 t ht
        refine ⟨hA.defers,by simp [Act.put,hA.size],fun t v ht=>?_⟩;have hne:t≠di:=fun e=>by subst e;exact hnk v (tA ht)
        rw [dV hne];exact hA.get t v ht
      · -- the first of the others
        have hall:∀ t,t < i→ls.getD t false=true:=fun t ht=>hml t (hok.suf i (by omega) hlt t ht);have him':i=m:=by
          rcases Nat.lt_or_ge m i with h | h
          · have:=hall m h;rw [h1 m (Nat.le_refl _)] at this;cases this
          omega
        subst him';have hO:=hfin ls a w K hS hA (fun t ht=>hall t ht) hR;rw [List.drop_eq_getElem_cons hlt] at hO;have hoe:all[i]=oi:=by rw [List.getElem?_eq_getElem hlt] at hoi';exact Option.some.inj hoi'
        rw [hoe] at hO;refine kV hoi hO fun a' w' hO'=>ih _ _ _ hsz' hu' hcl' (.inr ⟨i+1,by omega,by omega,fun t ht=>?_,fun t ht=>?_,hO'⟩)
        · by_cases e:t=i
          · subst e;exact hset
          rw [getD_set_ne false (Ne.symm e)];exact hall t (by omega)
        rw [getD_set_ne false (by omega)];exact h1 t (by omega)
    have hij:i=j:=by
      rcases Nat.lt_trichotomy i j with h | h | h
      · have:=h3 i h;rw [hli] at this;cases this
      · exact h
      have:=hml j (hok.suf i (by omega) hlt j h);rw [h4 j (Nat.le_refl _)] at this;cases this
    subst hij;rw [List.drop_eq_getElem_cons hlt] at h5;have hoe:all[i]=oi:=by rw [List.getElem?_eq_getElem hlt] at hoi';exact Option.some.inj hoi'
    rw [hoe] at h5;refine kV hoi h5 fun a' w' hO'=>ih _ _ _ hsz' hu' hcl' (.inr ⟨i+1,by omega,by omega,fun t ht=>?_,fun t ht=>?_,hO'⟩)
    · by_cases e:t=i
      · subst e;exact hset
      rw [getD_set_ne false (Ne.symm e)];exact h3 t (by omega)
    rw [getD_set_ne false (by omega)];exact h4 t (by omega)
theorem KI {id:Nat} {all:List Oper} {a:Act} {w:World} (m:Nat) (hmix:P.follows .mixedOrders=true) (hS:St M w0 H0 Hs σ w) (hA:aV D k a L0) (hchk:tB all m k (L0.map (·.1))=true) (hm:Nat.ble m all.length=true)
  (h:DF P r all.toArray (eY all []) D k M w0 H0 Hs σ L0 p (fun E F=>∀ a w K,St M w0 H0 (K::Hs) σ w→aV D k a (E++L0)→eW F K→O P r all.toArray n p (all.drop m) a w) 0 (all.take m) [] []) :
  W P r (.region id all.toArray true) n rt e p a w:=by
 have hm':m≤all.length:=by simpa using hm
 refine wpIn_region_any hmix ?_;have hS':St M w0 H0 Hs σ { w with drawn:=w.drawn+1 }:=hS.drew;have hz:∀ j,(Array.replicate all.toArray.size false).getD j false=false:=fun j=>by
  by_cases h:j < all.length
  ·simp [h]
  simp [h]
 refine wW (fun _ _ _ h=>h) (OV hchk) hm' _ (fun E F h=>h) _ _ _ _ (by simp) ?_ ?_ (.inl ⟨fun t _=>hz t,_,hS'.vis_self,hA,h.run hz⟩)
 ·unfold uJ;refine Nat.le_trans List.countP_le_length ?_;simp
 intro i o hi;rw [hz] at hi;cases hi
theorem Fin1.mk {ops:Array Oper} {K:Hp} {a:Act} {w:World} {d:Nat} {v:Value} {L:bX} (hS:St M w0 H0 (K::Hs) σ w) (hA:aV D k a ((d,v)::L)):O P r ops (fun a' w'=>∃ (_:Unit) (K':Hp),K.le K'∧St M w0 H0 (K'::Hs) σ w'∧a'.tmps[d]?=some v∧a'.defers=D∧True) p [] a w :=
 ⟨(),K,Hp.le.refl _,hS,hA.get _ _ (by simp [lk]),hA.defers,trivial⟩
theorem FinU.mk {ops:Array Oper} {K K':Hp} {a:Act} {w:World} {d:Nat} {L:bX} {α:Type} {f:α→Value} {G:α→Hp→Prop} (x:α) (hm:kE G) (hS:St M w0 H0 (K'::K::Hs) σ w) (hA:aV D k a ((d,f x)::L)) (hG:G x K'):O P r ops (fun a' w'=>∃ (x:α) (K':Hp),K.le K'∧St M w0 H0 (K'::Hs) σ w'∧a'.tmps[d]?=some (f x)∧a'.defers=D∧G x K') p [] a w :=
 ⟨x,hQ w0 H0 σ w,hS.le K (List.mem_cons_of_mem _ List.mem_cons_self),hS.tail.tail.vis_self,hA.get _ _ (by simp [lk]),hA.defers,hm _ _ _ (hS.le K' List.mem_cons_self) hG⟩
end
end Pk
namespace Pk
open Go
theorem lW {α:Type} {l:List α} {j:Nat} (h:j < l.length):∃ x,l[j]?=some x:=⟨l[j],List.getElem?_eq_getElem h⟩
theorem bA {α:Type} {l:List α} {j:Nat} {x:α} (h:l[j]?=some x):j < l.length:=(List.getElem?_eq_some_iff.1 h).1
theorem Sl.adr {α:Type} {R:Hp→List Value→α→Prop} {size:Nat} {H:Hp} {ad:Option Addr} {cap:Nat} {l:List α} (h:Sl R size H ad cap l) {j:Nat} {x:α} (hx:l[j]?=some x):∃ p,ad=some p:=by
 obtain ⟨p,_,h1,_⟩:=h.2 j x hx;exact ⟨p,h1⟩
theorem Sl.at {α:Type} {R:Hp→List Value→α→Prop} {size:Nat} {H:Hp} {p:Addr} {cap:Nat} {l:List α} (h:Sl R size H (some p) cap l) {j:Nat} {x:α} (hx:l[j]?=some x):∃ cs,cs.length=size∧bC H (p.add (j*size)) cs∧R H cs x:=by
 obtain ⟨q,cs,h1,_,h2,h3,h4⟩:=h.2 j x hx;cases h1;exact ⟨cs,h2,h3,h4⟩
def kA {α:Type} (R:Hp→List Value→α→Prop) (size:Nat):Hp→List Value→List α→Prop:=fun H cs l=>∃ ad cap,cs=[.slice ad l.length cap]∧Sl R size H ad cap l
theorem kA.mono {α:Type} {R:Hp→List Value→α→Prop} {size:Nat} (hR:lA R):lA (kA R size):=fun _ _ _ _ hk ⟨ad,cap,h1,h2⟩=>⟨ad,cap,h1,h2.mono hR hk⟩
def aU (k:IntKind) (x:Int):List Value:=[.int k x]
def bL (s:aF):List Value:=[.string (bs s)]
instance:Inhabited Addr:=⟨⟨0,0,none⟩⟩
section
variable {P:Program} {r:Option Nat} {n rt:aP} {e:List (Nat×aP)} {p:List PanicEntry→aP} {a:Act} {w:World}
variable {D:List Deferred} {k:Nat} {L:bX} {ops:Array Oper} {rest:List Oper} {d:Nat} {ty:TypeId} {pos:String} {af:Array Edge} {dst:Option Nat}
variable {M:Prop} {w0:World} {H0:Hp} {Hs:List Hp} {σ:aN}
theorem OW {op:Op} {dst:Option Nat} {j dj:Nat} {wt b:Bool} (hA:aV D k a L) (hj:(ops[j]?).bind (·.dst)=some dj) (hb:lk L dj=some (.bool b)) (hw:b=wt)
  (h:O P r ops n p (⟨dst,op,ty,pos,af,none⟩::rest) a w):O P r ops n p (⟨dst,op,ty,pos,af,some (j,wt)⟩::rest) a w:=UC hA hj (hw▸hb) h
theorem KJ {op:Op} {j dj:Nat} {wt b:Bool} (hA:aV D k a L) (hj:(ops[j]?).bind (·.dst)=some dj) (hb:lk L dj=some (.bool b)) (hw:b=!wt) (hd:Nat.blt d k=true)
  (h:∀ a,aV D k a ((d,undef)::L)→O P r ops n p rest a w):O P r ops n p (⟨some d,op,ty,pos,af,some (j,wt)⟩::rest) a w:=OH hA hj hb hw hd h
theorem GH {c x y:Operand} {b:Bool} {v:Value} (hA:aV D k a L) (hd:Nat.blt d k=true) (hc:ev L c=some (.bool b)) (hb:b=true) (hv:ev L x=some v) (h:∀ a,aV D k a ((d,v)::L)→O P r ops n p rest a w) :
  O P r ops n p (⟨some d,.pick c x y,ty,pos,af,none⟩::rest) a w:=BN hA hd hc (by rw [hb];exact hv) h
theorem GI {c x y:Operand} {b:Bool} {v:Value} (hA:aV D k a L) (hd:Nat.blt d k=true) (hc:ev L c=some (.bool b)) (hb:b=false) (hv:ev L y=some v) (h:∀ a,aV D k a ((d,v)::L)→O P r ops n p rest a w) :
  O P r ops n p (⟨some d,.pick c x y,ty,pos,af,none⟩::rest) a w:=BN hA hd hc (by rw [hb];exact hv) h
theorem GJ {c:Operand} {x y:Code} {t:Bool} (hA:aV D k a L) (hc:ev L c=some (.bool t)) (ht:t=true) (h:W P r x n rt e p a w):W P r (.cond c x y) n rt e p a w :=
 sV hA hc (fun _=>h) (fun hf=>by rw [ht] at hf;cases hf)
theorem GK {c:Operand} {x y:Code} {t:Bool} (hA:aV D k a L) (hc:ev L c=some (.bool t)) (ht:t=false) (h:W P r y n rt e p a w):W P r (.cond c x y) n rt e p a w :=
 sV hA hc (fun hf=>by rw [ht] at hf;cases hf) (fun _=>h)
theorem KK {x y:Operand} {ats:Array TypeId} {kk:IntKind} {m z:Int} (hA:aV D k a L) (hd:Nat.blt d k=true) (hx:ev L x=some (.int kk m)) (hy:ev L y=some (.int kk z))
  (h:∀ a,aV D k a ((d,.int kk (min m z))::L)→O P r ops n p rest a w):O P r ops n p (⟨some d,.call ⟨.builtin .min,#[x,y],ats⟩,ty,pos,af,none⟩::rest) a w :=
 cO rfl (fun _ h=>by cases h) (w':=w) (v:=.int kk (min m z)) (by
  simp [execOp,resolve,invoke,builtin,Builtin.min_,Builtin.min2,hA.eval hx,hA.eval hy,Int.min_def]
  split <;> split <;> first | rfl | omega) (h _ (hA.put hd _))
theorem KL {x y:Operand} {ats:Array TypeId} {kk:IntKind} {m z:Int} (hA:aV D k a L) (hd:Nat.blt d k=true) (hx:ev L x=some (.int kk m)) (hy:ev L y=some (.int kk z))
  (h:∀ a,aV D k a ((d,.int kk (max m z))::L)→O P r ops n p rest a w):O P r ops n p (⟨some d,.call ⟨.builtin .max,#[x,y],ats⟩,ty,pos,af,none⟩::rest) a w :=
 cO rfl (fun _ h=>by cases h) (w':=w) (v:=.int kk (max m z)) (by
  simp [execOp,resolve,invoke,builtin,Builtin.max_,Builtin.max2,hA.eval hx,hA.eval hy,Int.max_def]
  split <;> split <;> first | rfl | omega) (h _ (hA.put hd _))
abbrev aR.list {α:Type} (ad:Option Addr) (cap:Nat) (el:TypeId) (size:Nat) (enc:α→List Value) (l:List α):aR:=.row ad cap el size l.length (l.flatMap enc)
theorem St.as (hS:St M w0 H0 Hs σ w) (t:Nat) {x y:aR} (hx:cE σ t=some x) (he:x=y):St M w0 H0 Hs (dY σ t y) w:=by
 subst he
 have:dY σ t x=σ:=by
  clear hS
  induction σ with
  | nil=>rfl
  | cons q σ ih =>
   obtain ⟨i,z⟩:=q;by_cases e:i=t
   ·subst e;simp [cE] at hx;subst hx;simp [dY]
   simp only [cE,dW e,cond_false] at hx;simp only [dY,dW e,cond_false,ih hx]
 rw [this];exact hS
theorem St.del (hS:St M w0 H0 Hs σ w) (t:Nat):St M w0 H0 Hs (fK σ t) w:=by
 have:=(hS.rest (t:=t)).tail;exact this
theorem GL (tg:Nat) {α:Type} {enc:α→List Value} {l:List α} (x1:α) {t el:TypeId} {s x:Operand} {v:Value} {z:List Value} {size bytes d1:Nat} {ad:Option Addr} {cap nn:Nat} {ty1:TypeId} {pos1:String} {af1:Array Edge} (hA:aV D k a L) (hd:Nat.blt d k=true) (hd1:Nat.blt d1 k=true) (hS:St M w0 H0 Hs σ w) (he:cP P t el z size bytes) (hs:ev L s=some (.slice ad nn cap)) (hsd:pU d1 s=false) (hσ:cE σ tg=some (.list ad cap el size enc l)) (hn:nn=l.length) (hx:ev L x=some v) (hv:bT v=enc x1) (hcl:(enc x1).length=size) (h1:(enc x1).all (·.oneCell')=true)
  (h0:Nat.ble size 16777216=true) (h2:l.length+1≤1073741824) (hby:Nat.ble bytes 131072=true)
  (h:∀ ad' cap' w' u,St M w0 H0 Hs (dY σ tg (.list ad' cap' el size enc (l++[x1]))) w'→∀ a,aV D k a ((d,.slice ad' (l++[x1]).length cap')::(d1,u)::L)→O P r ops n p rest a w') :
  O P r ops n p (⟨some d1,.buildSlice t 1 #[(0,x)],ty1,pos1,af1,none⟩::⟨some d,.call ⟨.builtin .append,#[s,.tmp d1],#[t,t]⟩,ty,pos,af,none⟩::rest) a w:=by
 subst hn;refine KE tg hA hd hd1 hS he hs hsd hσ hx hv hcl h1 h0 h2 hby fun ad' cap' w' u hS a hA=>?_;have e1:l.length+1=(l++[x1]).length:=by simp
 have e2:l.flatMap enc++enc x1=(l++[x1]).flatMap enc:=by simp
 rw [e1,e2] at hS;rw [e1] at hA;exact h ad' cap' w' u hS a hA
theorem pZ {α:Type} {enc:α→List Value} {size:Nat} (he:∀ x,(enc x).length=size):∀ (l:List α) (i:Nat) (x:α),l[i]?=some x→∀ j v,(enc x)[j]?=some v→(l.flatMap enc)[i*size+j]?=some v
 | [],i,x,h=>by simp at h
 | y::l,0,x,h=>by
  intro j v hv;simp at h;subst h;have hj:j < (enc y).length:=(List.getElem?_eq_some_iff.1 hv).1;rw [List.flatMap_cons,Nat.zero_mul,Nat.zero_add,List.getElem?_append_left hj];exact hv
 | y::l,i+1,x,h=>by
  intro j v hv;have:=pZ he l i x (by simpa using h) j v hv;rw [List.flatMap_cons,List.getElem?_append_right (by rw [he,Nat.add_mul];omega),he];rw [show (i+1)*size+j - size=i*size+j by rw [Nat.add_mul];omega];exact this
theorem tE {w:World} {ad:Option Addr} {cap:Nat} {el:TypeId} {size n:Nat} {xs:List Value} (h:(aR.row ad cap el size n xs).holds w):cap≤9223372036854775807:=by
 rcases h.2 with ⟨hn,_⟩ | ⟨g,cap',cur,hv,_,_,_,hc,_⟩
 ·simp only [Value.slice.injEq] at hn;omega
 simp only [Value.slice.injEq] at hv;unfold maxLen at hc;omega
theorem pI {α:Type} {enc:α→List Value} {size:Nat} (he:∀ x,(enc x).length=size) {w:World} {ad:Option Addr} {cap:Nat} {el:TypeId} {l:List α} {H:Hp} (h:(aR.list ad cap el size enc l).holds w) (hH:∀ b,ad.map (·.block)=some b→∀ o,w.heap[b]?=some o→H b=some o):Sl (aG enc) size H ad cap l:=by
 refine ⟨⟨(sX h).2,tE h⟩,fun i x hx=>?_⟩;rcases h.2 with ⟨_,hz⟩ | ⟨g,cap',cur,hv,_,hg,_,_,_,ht⟩
 ·have:=bA hx;omega
 simp only [Value.slice.injEq] at hv;obtain ⟨rfl,_,rfl⟩:=hv;refine ⟨⟨g,0,none⟩,enc x,rfl,rfl,he x,?_,rfl⟩;rw [dX rfl];refine ⟨rfl,fun j v hj=>⟨cur,el,(0,0),hH g rfl _ hg,?_⟩⟩;have:=pZ he l i x hx j v hj;rw [← ht,List.getElem?_take] at this
 split at this
 ·simpa using this
 cases this
theorem St.listOut {α:Type} {enc:α→List Value} {size:Nat} (hS:St M w0 H0 Hs σ w) (t:Nat) {ad:Option Addr} {cap:Nat} {el:TypeId} {l:List α} (hσ:cE σ t=some (.list ad cap el size enc l)) (he:∀ x,(enc x).length=size):Sl (aG enc) size (Pk.grow H0 w0 w) ad cap l:=by
 refine pI he (hS.get hσ) (fun b hb o ho=>?_);have h1:=(hS.own t _ (eO hσ)).2 b hb;unfold Pk.grow;rw [if_neg (by omega)];exact ho
theorem St.listRest {α:Type} {enc:α→List Value} {size:Nat} (hS:St M w0 H0 Hs σ w) (t:Nat) {ad:Option Addr} {cap:Nat} {el:TypeId} {l:List α} (hσ:cE σ t=some (.list ad cap el size enc l)) (he:∀ x,(enc x).length=size):∃ K,St M w0 H0 (K::Hs) (fK σ t) w∧Sl (aG enc) size K ad cap l:=by
 have hf:∀ b,(aR.list ad cap el size enc l).foot=some b→w0.heap.size≤b:=(hS.own t _ (eO hσ)).2;exact ⟨_,hS.rest (t:=t),pI he (hS.get hσ) (fun b hb o ho=>hS.rest_vis hσ hf hb ho)⟩
end
end Pk
namespace Pk
open Go
theorem tF {α:Type} {l:List α} {k:Nat} {x:α} (h:l[k]?=some x):l.drop k=x::l.drop (k+1):=by
 obtain ⟨h1,h2⟩:=List.getElem?_eq_some_iff.1 h;rw [List.drop_eq_getElem_cons h1,h2]
theorem GM {α:Type} {l:List α} {k:Nat} {x:α} (h:l[k]?=some x):l.take (k+1)=l.take k++[x]:=by
 rw [List.take_add_one,h];rfl
def uL (size cap i:Nat) (ad:Option Addr):Option Addr:=if cap=i then ad else ad.map (·.add (i*size))
theorem Sl.sub {α:Type} {R:Hp→List Value→α→Prop} {size:Nat} {H:Hp} {ad:Option Addr} {cap:Nat} {l:List α} (h:Sl R size H ad cap l) (i j:Nat) (hi:i≤j) (hj:j≤l.length):Sl R size H (uL size cap i ad) (cap - i) ((l.drop i).take (j - i)):=by
 obtain ⟨hc,h⟩:=h;have hlen:((l.drop i).take (j - i)).length=j - i:=by simp;omega
 refine ⟨⟨by omega,by omega⟩,fun k x hx=>?_⟩;have hk:=bA hx;rw [hlen] at hk;have hx':l[i+k]?=some x:=by
  rw [List.getElem?_take,if_pos hk,List.getElem?_drop] at hx;exact hx
 obtain ⟨p,cs,h1,h0,h2,h3,h4⟩:=h (i+k) x hx';subst h1;refine ⟨p.add (i*size),cs,?_,?_,h2,?_,h4⟩
 ·unfold uL;rw [if_neg (by omega)];rfl
 ·rw [dX h0]
 rw [dX h0] at h3 ⊢;rw [dX rfl];have e:p.off+i*size+k*size=p.off+(i+k)*size:=by rw [Nat.add_mul];omega
 simp only [e];exact h3
section
variable {P:Program} {r:Option Nat} {n rt:aP} {e:List (Nat×aP)} {p:List PanicEntry→aP} {a:Act} {w:World}
variable {D:List Deferred} {k:Nat} {L:bX} {ops:Array Oper} {rest:List Oper} {d:Nat} {ty:TypeId} {pos:String} {af:Array Edge} {dst:Option Nat}
variable {M:Prop} {w0:World} {H0:Hp} {Hs:List Hp} {σ:aN}
def iG (L:bX):Option Operand→Nat→Option Int
 | none,z=>some z
 | some x,_=>match ev L x with
  | some (.int _ m)=>some m
  | _=>none
theorem wX (hA:aV D k a L) {lo hi:Option Operand} {ln cap i j:Nat} {b:Bool} (hlo:iG L lo 0=some (i:Int)) (hhi:iG L hi ln=some (j:Int)) (hij:i≤j) (hj:j≤cap) :
  (Instr.sliceBounds b ln cap (lo.map a.eval) (hi.map a.eval) none).run P w=.ok (i,j,cap) w:=by
 have hl:∀ {o:Operand} {z:Nat} {m:Nat},iG L (some o) z=some (m:Int)→∃ kk,a.eval o=.int kk m:=fun {o z m} h=>by
  simp only [iG] at h
  split at h
  ·rename_i kk m' hv
   simp at h;subst h;exact ⟨kk,hA.eval hv⟩
  cases h
 cases hi with
 | none =>
  simp only [iG,Option.some.injEq] at hhi
  have:ln=j:=by omega
  subst this
  cases lo with
  | none =>
   simp only [iG,Option.some.injEq] at hlo
   have:i=0:=by omega
   subst this;simp [Instr.sliceBounds]
  | some x =>
   obtain ⟨kk,hx⟩:=hl hlo;simp [Instr.sliceBounds,Instr.sliceBound,hx,asIntOf,hij]
 | some y =>
  obtain ⟨ky,hy⟩:=hl hhi
  cases lo with
  | none =>
   simp only [iG,Option.some.injEq] at hlo
   have:i=0:=by omega
   subst this;simp [Instr.sliceBounds,Instr.sliceBound,hy,asIntOf,hj]
  | some x =>
   obtain ⟨kk,hx⟩:=hl hlo;simp [Instr.sliceBounds,Instr.sliceBound,hx,hy,asIntOf,hij,hj]
theorem KM {α:Type} {R:Hp→List Value→α→Prop} {size:Nat} {H:Hp} {l:List α} {ad:Option Addr} {cap ln:Nat} {t el:TypeId} {x:Operand} {lo hi:Option Operand} (i j:Nat) (hA:aV D k a L) (hd:Nat.blt d k=true) (hx:ev L x=some (.slice ad ln cap)) (hu:P.underlying t=some (.slice el)) (hz:∀ w,(Go.sizeOf el).run P w=.ok size w) (hl:Sl R size H ad cap l) (hln:ln=l.length)
  (hlo:iG L lo 0=some (i:Int)) (hhi:iG L hi ln=some (j:Int)) (hij:i≤j) (hj:j≤l.length)
  (h:∀ ad' cap',Sl R size H ad' cap' ((l.drop i).take (j - i))→∀ a,aV D k a ((d,.slice ad' ((l.drop i).take (j - i)).length cap')::L)→O P r ops n p rest a w):O P r ops n p (⟨some d,.slice t x lo hi none,ty,pos,af,none⟩::rest) a w:=by
 subst hln;have hb:=wX (P:=P) (w:=w) (b:=true) hA (cap:=cap) hlo hhi hij (by have:=hl.1;omega);have hlen:((l.drop i).take (j - i)).length=j - i:=by simp;omega
 refine cO rfl (fun _ h=>by cases h) (w':=w) (v:=.slice (uL size cap i ad) (j - i) (cap - i)) ?_ ?_
 ·simp [execOp,Instr.sliceAt,Instr.slice,hA.eval hx,run_underlying hu,hb,hz,uL]
 have:=h _ _ (hl.sub i j hij hj) (a.put (some d) (.slice (uL size cap i ad) (j - i) (cap - i)));rw [hlen] at this;exact this (hA.put hd _)
structure uM {α:Type} [DecidableEq α] (P:Program) (t:TypeId) (enc:α→List Value):Prop where
 run:∀ x y w,(Op.equalIn 10000 t (.agg (enc x).toArray) (.agg (enc y).toArray)).run P w=.ok (decide (x=y)) w
 guard:P.eqGuardType P.depth t=false
theorem BV {α:Type} [DecidableEq α] {enc:α→List Value} {t u:TypeId} {x y:Operand} (m z:α) (hA:aV D k a L) (hd:Nat.blt d k=true) (he:uM P t enc) (hx:ev L x=some (.agg (enc m).toArray)) (hy:ev L y=some (.agg (enc z).toArray))
  (h:∀ a,aV D k a ((d,.bool (decide (m=z)))::L)→O P r ops n p rest a w):O P r ops n p (⟨some d,.binOp .eql t x y u,ty,pos,af,none⟩::rest) a w :=
 cO rfl (fun _ h=>by cases h) (w':=w) (v:=.bool (decide (m=z))) (by simp [execOp,hA.eval hx,hA.eval hy,run_eqGuard_agg w _ _ _ _ _ _ he.guard,run_eql_struct,he.run]) (h _ (hA.put hd _))
theorem BW {α:Type} [DecidableEq α] {enc:α→List Value} {t u:TypeId} {x y:Operand} (m z:α) (hA:aV D k a L) (hd:Nat.blt d k=true) (he:uM P t enc) (hx:ev L x=some (.agg (enc m).toArray)) (hy:ev L y=some (.agg (enc z).toArray))
  (h:∀ a,aV D k a ((d,.bool (!decide (m=z)))::L)→O P r ops n p rest a w):O P r ops n p (⟨some d,.binOp .neq t x y u,ty,pos,af,none⟩::rest) a w :=
 cO rfl (fun _ h=>by cases h) (w':=w) (v:=.bool (!decide (m=z))) (by simp [execOp,hA.eval hx,hA.eval hy,run_eqGuard_agg w _ _ _ _ _ _ he.guard,run_neq_struct,he.run]) (h _ (hA.put hd _))
theorem KN {t u:TypeId} {x y:Operand} {b c:Bool} (hA:aV D k a L) (hd:Nat.blt d k=true) (hx:ev L x=some (.bool b)) (hy:ev L y=some (.bool c)) (hu:P.underlying t=some .bool)
  (h:∀ a,aV D k a ((d,.bool (!(b==c)))::L)→O P r ops n p rest a w):O P r ops n p (⟨some d,.binOp .neq t x y u,ty,pos,af,none⟩::rest) a w :=
 cO rfl (fun _ h=>by cases h) (w':=w) (v:=.bool (!(b==c))) (by simp [execOp,hA.eval hx,hA.eval hy,eqGuard,run_neq_bool _ t b c hu]) (h _ (hA.put hd _))
theorem GN {t u el:TypeId} {x:Operand} {ad:Option Addr} {l c:Nat} (hA:aV D k a L) (hd:Nat.blt d k=true) (hx:ev L x=some (.slice ad l c)) (hu:P.underlying t=some (.slice el))
  (h:∀ a,aV D k a ((d,.bool ad.isNone)::L)→O P r ops n p rest a w):O P r ops n p (⟨some d,.binOp .eql t x (.const (.slice none 0 0)) u,ty,pos,af,none⟩::rest) a w :=
 cO rfl (fun _ h=>by cases h) (w':=w) (v:=.bool ad.isNone) (by
  have hc:a.eval (.const (.slice none 0 0))=.slice none 0 0:=rfl
  simp [execOp,hA.eval hx,hc,eqGuard,binOp,run_equal_slice_nil w t el ad l c hu]) (h _ (hA.put hd _))
def eS (M:Prop) (P:Program) (H:Hp) (fv:Value) (S:Hp→List Value→Value→Prop):Prop :=
 ∃ (f:FuncId) (first cap:List Value),fv=.func (.func f) first.toArray cap.toArray∧(∀ args w,(callFunc f args).run P w=.ok (.enter f args) w) ∧
  ∀ w K args v,H.le K→K.le (hp w)→S K args v→Calls P f (first++args++cap).toArray w (bV M w v)
theorem eS.mono {M:Prop} {P:Program} {H K:Hp} {fv:Value} {S:Hp→List Value→Value→Prop} (h:eS M P H fv S) (hk:H.le K):eS M P K fv S:=by
 obtain ⟨f,first,cap,e,hc,hr⟩:=h;exact ⟨f,first,cap,e,hc,fun w K' args v h1=>hr w K' args v (hk.trans h1)⟩
theorem GO {x:Operand} {xs:List Operand} {ats:Array TypeId} {fv v:Value} {H:Hp} {S:Hp→List Value→Value→Prop} {vs:List Value} (hA:aV D k a L) (hd:Nat.blt d k=true) (hS:St M w0 H0 Hs σ w) (hf:ev L x=some fv) (hF:eS M P H fv S) (hle:H.le (hQ w0 H0 σ w)) (hxs:oV L xs=some vs) (hv:S (hQ w0 H0 σ w) vs v)
  (h:∀ w',St M w0 H0 Hs σ w'→∀ a,aV D k a ((d,v)::L)→O P r ops n p rest a w'):O P r ops n p (⟨some d,.call ⟨.value x,xs.toArray,ats⟩,ty,pos,af,none⟩::rest) a w:=by
 obtain ⟨f,first,cap,rfl,hc,hr⟩:=hF;exact sW hA hd hS hf hxs hc rfl (hr w _ vs v hle hS.vis_le hv) h
def uN (c:UInt8):List Value:=[.int .u8 c.toNat]
theorem GP {src dst el:TypeId} {x:Operand} {s:aF} (hA:aV D k a L) (hd:Nat.blt d k=true) (hS:St M w0 H0 Hs σ w) (hx:ev L x=some (.string (bs s))) (hs:P.underlying src=some .string) (hdst:P.underlying dst=some (.slice el)) (he:P.underlying el=some (.int .u8)) (hlen:s.length≤1073741824)
  (h:∀ ad cap K w',Sl (aG uN) 1 K ad cap s→St M w0 H0 (K::Hs) σ w'→∀ a,aV D k a ((d,.slice ad s.length cap)::L)→O P r ops n p rest a w'):O P r ops n p (⟨some d,.convert src dst x,ty,pos,af,none⟩::rest) a w:=by
 have hr:=run_bytes_of_string (P:=P) w src dst el (bs s) hs hdst he;rw [mN] at hr;have hcap:s.length≤grownCap w s.length 0 el∧grownCap w s.length 0 el≤9223372036854775807:=by
  have:=grownCap_le_maxLen w s.length 0 el (by unfold maxLen;omega);unfold maxLen at this;exact ⟨grownCap_ge w s.length 0 el,by omega⟩
 generalize grownCap w s.length 0 el=cp at hr hcap;generalize hfz:((bytesRow (bs s) cp).size,(bytesRow (bs s) cp).size+1)=fz at hr;refine cO rfl (fun _ h=>by cases h) (w':=w.drew.alloc (.cells (bytesRow (bs s) cp) el fz)) (v:=.slice (some ⟨w.heap.size,0,none⟩) s.length cp) (by simp [execOp,hA.eval hx,hr]) ?_;refine h _ _ _ _ ?_ (hS.new ((iT.drew _ w).trans (iT.alloc _ w.drew _))) _ (hA.put hd _);refine ⟨hcap,fun i c hc=>⟨⟨w.heap.size,0,none⟩,uN c,rfl,rfl,rfl,?_,rfl⟩⟩;rw [dX rfl];refine ⟨rfl,fun j u hu=>⟨bytesRow (bs s) cp,el,fz,?_,?_⟩⟩
 ·simp only [Pk.grow];rw [if_neg (by omega)];exact eT w.drew _
 have hi:=bA hc;have hj:j=0:=by have:=bA hu;simp [uN] at this;omega
 subst hj;simp [uN] at hu;subst hu;simp only [bytesRow,bs];rw [Array.getElem?_append_left (by simp;omega)];simp [hc]
end
end Pk
namespace Pk
open Go
section
variable {P:Program} {r:Option Nat} {n rt:aP} {e:List (Nat×aP)} {p:List PanicEntry→aP} {a:Act} {w:World}
variable {D:List Deferred} {k:Nat} {L:bX} {ops:Array Oper} {rest:List Oper} {d:Nat} {ty:TypeId} {pos:String} {af:Array Edge} {dst:Option Nat}
variable {M:Prop} {w0:World} {H0:Hp} {Hs:List Hp} {σ:aN}
def rR (P:Program) (w:World) (t:TypeId) (q:Addr) (v:Value):Prop:=(loadVar t q).run P w=.ok v w
theorem lX {t:TypeId} {ad:Addr} {cs:List Value} {v:Value} (hag:∀ w,(isAgg t).run P w=.ok false w) (hc:bC (hp w) ad cs) (hv:cs[0]?=some v):rR P w t ad v:=by
 have h0:=hc.cell hv
 have:ad.add 0=ad:=by simp [Addr.add]
 rw [this] at h0;simp [rR,loadVar,hag,h0]
theorem eF {t:TypeId} {ad:Addr} {cs:List Value} {s:Nat} (hag:∀ w,(isAgg t).run P w=.ok true w) (hz:∀ w,(Go.sizeOf t).run P w=.ok s w) (hc:bC (hp w) ad cs) (hl:cs.length=s):rR P w t ad (.agg cs.toArray):=by
 subst hl;have h0:(loadCells ad cs.length).run P w=.ok cs.toArray w:=run_loadCells_list (P:=P) w ad cs (fun j v hv=>hc.cell hv);simp [rR,loadVar,hag,hz,h0]
def cM (P:Program) (w:World) (L:bX):ResultVar→Value→Prop
 | .tmp t,v=>lk L t=some v
 | .cell t ty,v=>∃ q,lk L t=some (.pointer (some q))∧rR P w ty q v
theorem cM.tmp {t:Nat} {v:Value} (h:lk L t=some v):cM P w L (.tmp t) v:=h
theorem cM.cell {t:Nat} {ty:TypeId} {q:Addr} {v:Value} (h:lk L t=some (.pointer (some q))) (hl:rR P w ty q v):cM P w L (.cell t ty) v:=⟨q,h,hl⟩
def kH (tmps:Array Value):ResultVar→Sem Value
 | .tmp t=>pure (tmps.getD t undef)
 | .cell a t=>do loadVar t (← asAddr (tmps.getD a undef))
theorem cM.run {D:List Deferred} (hA:aV D k a L) {x:ResultVar} {v:Value} (h:cM P w L x v):(kH a.tmps x).run P w=.ok v w:=by
 cases x with
 | tmp t=>simp only [kH];rw [hA.tmp h];rfl
 | cell t ty =>
  obtain ⟨q,h1,h2⟩:=h;have h2':(loadVar ty q).run P w=.ok v w:=h2;have e1:a.tmps.getD t undef=.pointer (some q):=hA.tmp h1;simp only [kH,e1];simp [asAddr,h2']
def UK:List Value→Value
 | [v]=>v
 | vs=>.tuple vs.toArray
theorem oI {fn:Func} {xs:List ResultVar} (hr:fn.results=xs.toArray) (tmps:Array Value) {vs:List Value} (h:∀ (i:Nat) (x:ResultVar) (v:Value),xs[i]?=some x→vs[i]?=some v→(kH tmps x).run P w=.ok v w) (hl:xs.length=vs.length) :
  (results fn tmps).run P w=.ok (UK vs) w:=by
 have hm:∀ (xs:List ResultVar) (vs:List Value),xs.length=vs.length→(∀ (i:Nat) (x:ResultVar) (v:Value),xs[i]?=some x→vs[i]?=some v→(kH tmps x).run P w=.ok v w)→(xs.mapM (kH tmps)).run P w=.ok vs w:=by
  intro xs
  induction xs with
  | nil=>intro vs hl _;cases vs <;> simp at hl ⊢
  | cons x xs ih =>
   intro vs hl h
   cases vs with
   | nil=>simp at hl
   | cons v vs =>
    have h0:=h 0 x v rfl rfl;have ih':=ih vs (by simpa using hl) (fun i x v hx hv=>h (i+1) x v (by simpa using hx) (by simpa using hv));simp [h0,ih']
 have:=hm xs vs hl h;have e:(fn.results.mapM (kH tmps):Sem (Array Value)).run P w=.ok vs.toArray w:=by
  rw [hr,List.mapM_toArray];simp [this]
 have e1:results fn tmps=(do let vs ← fn.results.mapM (kH tmps);pure (if h:vs.size=1 then vs[0] else .tuple vs)):=by
  unfold results;rfl
 rw [e1,Sem.run_bind,e];simp only [Result.andThen]
 match vs with
 | []=>rfl
 | [v]=>rfl
 | v::u::us=>rfl
theorem GQ {f:Func} {R:Ending→World→Prop} {x:ResultVar} {v:Value} (hA:aV [] k a L) (hr:f.results = #[x]) (hx:cM P w L x v) (h:R (.returned v) w):Rt P f R a w:=by
 refine ⟨hA.defers,_,oI (xs:=[x]) (vs:=[v]) hr _ ?_ rfl,h⟩;intro i y u h1 h2
 match i with
 | 0=>simp at h1 h2;subst h1;subst h2;exact hx.run hA
 | i+1=>simp at h1
theorem AB {f:Func} {R:Ending→World→Prop} {x y:ResultVar} {v z:Value} (hA:aV [] k a L) (hr:f.results = #[x,y]) (hx:cM P w L x v) (hy:cM P w L y z) (h:R (.returned (.tuple #[v,z])) w):Rt P f R a w:=by
 refine ⟨hA.defers,_,oI (xs:=[x,y]) (vs:=[v,z]) hr _ ?_ rfl,h⟩;intro i q u h1 h2
 match i with
 | 0=>simp at h1 h2;subst h1;subst h2;exact hx.run hA
 | 1=>simp at h1 h2;subst h1;subst h2;exact hy.run hA
 | i+2=>simp at h1
def Rows {α:Type} (R:Hp→List Value→α→Prop) (size:Nat) (K:Hp):List (List Value)→List α→Prop
 | [],[]=>True
 | cs::css,x::l=>(cs.length=size∧cs.all (·.oneCell')=true∧R K cs x)∧Rows R size K css l
 | _,_=>False
theorem Rows.mono {α:Type} {R:Hp→List Value→α→Prop} {size:Nat} {H K:Hp} (hR:lA R) (hk:H.le K):∀ {css:List (List Value)} {l:List α},Rows R size H css l→Rows R size K css l
 | [],[],_=>trivial
 | _::_,_::_,h=>⟨⟨h.1.1,h.1.2.1,hR _ _ _ _ hk h.1.2.2⟩,Rows.mono hR hk h.2⟩
 | [],_::_,h=>h.elim
 | _::_,[],h=>h.elim
theorem Rows.snoc {α:Type} {R:Hp→List Value→α→Prop} {size:Nat} {H:Hp} {cs:List Value} {x:α} (h1:cs.length=size) (h2:cs.all (·.oneCell')=true) (h3:R H cs x):∀ {css:List (List Value)} {l:List α},Rows R size H css l→Rows R size H (css++[cs]) (l++[x])
 | [],[],_=>⟨⟨h1,h2,h3⟩,trivial⟩
 | _::_,_::_,h=>⟨h.1,Rows.snoc h1 h2 h3 h.2⟩
 | [],_::_,h=>h.elim
 | _::_,[],h=>h.elim
theorem Rows.get {α:Type} {R:Hp→List Value→α→Prop} {size:Nat} {H:Hp}:∀ {css:List (List Value)} {l:List α},Rows R size H css l→∀ (i:Nat) (x:α),l[i]?=some x→∃ cs,css[i]?=some cs∧cs.length=size∧R H cs x∧∀ j v,cs[j]?=some v→css.flatten[i*size+j]?=some v
 | [],[],_,i,x,hx=>by simp at hx
 | cs::css,y::l,h,0,x,hx=>by
  simp at hx;subst hx;refine ⟨cs,rfl,h.1.1,h.1.2.2,fun j v hv=>?_⟩;rw [Nat.zero_mul,Nat.zero_add,List.flatten_cons,List.getElem?_append_left (bA hv)];exact hv
 | cs::css,y::l,h,i+1,x,hx=>by
  obtain ⟨c,h1,h2,h3,h4⟩:=Rows.get h.2 i x (by simpa using hx);refine ⟨c,by simpa using h1,h2,h3,fun j v hv=>?_⟩;have:=h4 j v hv;have e1:cs.length≤(i+1)*size+j:=by rw [h.1.1,Nat.add_mul];omega
  rw [List.flatten_cons,List.getElem?_append_right e1,h.1.1];rw [show (i+1)*size+j - size=i*size+j by rw [Nat.add_mul];omega];exact this
 | [],_::_,h,_,_,_=>h.elim
 | _::_,[],h,_,_,_=>h.elim
abbrev aR.rows {α:Type} (ad:Option Addr) (cap:Nat) (el:TypeId) (size:Nat) (css:List (List Value)) (l:List α):aR:=.row ad cap el size l.length css.flatten
theorem yH {α:Type} {R:Hp→List Value→α→Prop} {size:Nat} {w:World} {ad:Option Addr} {cap:Nat} {el:TypeId} {css:List (List Value)} {l:List α} {H:Hp} (h:(aR.rows ad cap el size css l).holds w) (hR:Rows R size H css l) (hH:∀ b,ad.map (·.block)=some b→∀ o,w.heap[b]?=some o→H b=some o):Sl R size H ad cap l:=by
 refine ⟨⟨(sX h).2,tE h⟩,fun i x hx=>?_⟩;obtain ⟨cs,h1,h2,h3,h4⟩:=hR.get i x hx;rcases h.2 with ⟨_,hz⟩ | ⟨g,cap',cur,hv,_,hg,_,_,_,ht⟩
 ·have:=bA hx;omega
 simp only [Value.slice.injEq] at hv;obtain ⟨rfl,_,rfl⟩:=hv;refine ⟨⟨g,0,none⟩,cs,rfl,rfl,h2,?_,h3⟩;rw [dX rfl];refine ⟨rfl,fun j v hj=>⟨cur,el,(0,0),hH g rfl _ hg,?_⟩⟩;have:=h4 j v hj;rw [← ht,List.getElem?_take] at this
 split at this
 ·simpa using this
 cases this
theorem St.pack (hS:St M w0 H0 Hs σ w) {F:Hp→Prop} (h:F (hQ w0 H0 σ w)):∃ K,St M w0 H0 (K::Hs) σ w∧F K:=⟨_,hS.vis_self,h⟩
theorem St.rowsOut {α:Type} {R:Hp→List Value→α→Prop} {size:Nat} (hS:St M w0 H0 Hs σ w) (t:Nat) {ad:Option Addr} {cap:Nat} {el:TypeId} {css:List (List Value)} {l:List α} (hσ:cE σ t=some (.rows ad cap el size css l)) (i:Nat) {K:Hp} (hK:Hs[i]?=some K) (hm:lA R) (hR:Rows R size K css l):Sl R size (Pk.grow H0 w0 w) ad cap l:=by
 refine yH (hS.get hσ) (hR.mono hm (hS.grow i hK)) (fun b hb o ho=>?_);have h1:=(hS.own t _ (eO hσ)).2 b hb;unfold Pk.grow;rw [if_neg (by omega)];exact ho
theorem jE {α:Type} {enc:α→List Value} {size:Nat} (he:∀ x,(enc x).length=size):∀ l:List α,(l.flatMap enc).length=l.length*size
 | []=>by simp
 | x::l=>by simp only [List.flatMap_cons,List.length_append,he,jE he l,List.length_cons,Nat.add_mul];omega
theorem uO {α:Type} {enc:α→List Value} {size:Nat} (he:∀ x,(enc x).length=size) (hs:0 < size):∀ (l:List α) (j:Nat) (v:Value),(l.flatMap enc)[j]?=some v→∃ x,l[j/size]?=some x∧(enc x)[j%size]?=some v
 | [],j,v,h=>by simp at h
 | x::l,j,v,h=>by
  rw [List.flatMap_cons] at h;by_cases hj:j < size
  ·rw [List.getElem?_append_left (by rw [he];exact hj)] at h;exact ⟨x,by rw [Nat.div_eq_of_lt hj];rfl,by rw [Nat.mod_eq_of_lt hj];exact h⟩
  rw [List.getElem?_append_right (by rw [he];omega),he] at h;obtain ⟨y,h1,h2⟩:=uO he hs l (j - size) v h;refine ⟨y,?_,?_⟩
  ·rw [Nat.div_eq_sub_div hs (by omega)];simpa using h1
  rw [Nat.mod_eq_sub_mod (by omega)];exact h2
theorem Sl.src {α:Type} {enc:α→List Value} {size:Nat} {H:Hp} {ad:Option Addr} {cap:Nat} {l:List α} (h:Sl (aG enc) size H ad cap l) (he:∀ x,(enc x).length=size) (ho:∀ x,(enc x).all (·.oneCell')=true) (hs:0 < size) (hp:0 < l.length):pV H ad l.length cap size (l.flatMap enc):=by
 refine ⟨jE he l,?_,?_⟩
 ·rw [List.all_flatMap];rw [List.all_eq_true];intro x _;exact ho x
 obtain ⟨x,hx⟩:=lW hp;obtain ⟨p,_,h1,h0,_⟩:=h.2 0 x hx;subst h1;right;refine ⟨p,rfl,h0,fun j v hj=>?_⟩;obtain ⟨y,h1,h2⟩:=uO he hs l j v hj;obtain ⟨q,cs,e,_,h3,h4,h5⟩:=h.2 _ y h1;cases e;have h5':cs=enc y:=h5;subst h5';obtain ⟨c,ty,fz,h6,h7⟩:=h4.2 (j%size) v h2;rw [dX h0] at h6 h7;refine ⟨c,ty,fz,h6,?_⟩;rw [← h7];congr 1;have:=Nat.div_add_mod j size;rw [Nat.mul_comm] at this;simp only;omega
theorem pV.mono {H K:Hp} {sad:Option Addr} {m c size:Nat} {news:List Value} (h:pV H sad m c size news) (hk:H.le K):pV K sad m c size news:=by
 obtain ⟨h1,h2,h3⟩:=h;refine ⟨h1,h2,?_⟩;rcases h3 with h3 | ⟨q,e,h3⟩
 ·exact .inl h3
 exact .inr ⟨q,e,h3.mono hk⟩
theorem KO (tg:Nat) {α:Type} {enc:α→List Value} {l m:List α} {H:Hp} {t el:TypeId} {s x:Operand} {z:List Value} {size bytes:Nat} {ad sad:Option Addr} {cap nn mm c:Nat} (hA:aV D k a L) (hd:Nat.blt d k=true) (hS:St M w0 H0 Hs σ w) (he:cP P t el z size bytes) (hs:ev L s=some (.slice ad nn cap)) (hσ:cE σ tg=some (.list ad cap el size enc l)) (hn:nn=l.length) (hx:ev L x=some (.slice sad mm c)) (hmm:mm=m.length) (hm:Sl (aG enc) size H sad c m) (hH:H.le (hp w)) (hl:∀ x,(enc x).length=size) (ho:∀ x,(enc x).all (·.oneCell')=true)
  (h1:l.length+m.length≤1073741824) (hby:Nat.ble bytes 131072=true)
  (h:∀ ad' cap' w',St M w0 H0 Hs (dY σ tg (.list ad' cap' el size enc (l++m))) w'→∀ a,aV D k a ((d,.slice ad' (l++m).length cap')::L)→O P r ops n p rest a w'):O P r ops n p (⟨some d,.call ⟨.builtin .append,#[s,x],#[t,t]⟩,ty,pos,af,none⟩::rest) a w:=by
 subst hn;subst hmm;have hps:=he.pos;rcases Nat.eq_zero_or_pos m.length with h0 | hpos
 ·have hm0:m=[]:=List.eq_nil_of_length_eq_zero h0;subst hm0;obtain ⟨i,v,hi,_,_,hsz,_⟩:=he.info;have hrow:=hS.get hσ;have hrun:(Builtin.append_ #[t,t] ty #[.slice ad l.length cap,.slice sad 0 c]).run P w=.ok (.slice ad l.length cap) w:=by
   rcases hrow.2 with ⟨hv,hz⟩ | ⟨g,cap',cur,hv,_,_,hnc,_⟩
   ·rw [hv];cases sad <;> simp [Builtin.append_,run_underlying he.desc,Go.sizeOf,typeInfo,hi,Builtin.lenOf,Builtin.firstCells,loadCells,loadCellsFrom]
   simp only [Value.slice.injEq] at hv;obtain ⟨rfl,_,rfl⟩:=hv;cases sad <;> simp [Builtin.append_,run_underlying he.desc,Go.sizeOf,typeInfo,hi,Builtin.lenOf,Builtin.firstCells,hnc,storeCells,loadCells,loadCellsFrom]
  refine cO rfl (fun _ h=>by cases h) (w':=w) (v:=.slice ad l.length cap) (by simp [execOp,resolve,invoke,builtin,hA.eval hs,hA.eval hx,hrun]) ?_;have:=h ad cap w (by simpa using hS.as tg hσ rfl) (a.put (some d) (.slice ad l.length cap));simp only [List.append_nil] at this;exact this (hA.put hd _)
 refine pW tg hA hd hS he hs hσ hx (pV.mono (hm.src hl ho he.pos hpos) hH) h1 hby fun ad' cap' w' hS a hA=>?_;have e1:l.length+m.length=(l++m).length:=by simp
 have e2:l.flatMap enc++m.flatMap enc=(l++m).flatMap enc:=by simp
 rw [e1,e2] at hS;rw [e1] at hA;exact h ad' cap' w' hS a hA
end
end Pk
namespace Pk
open Go
section
variable {P:Program} {r:Option Nat} {n rt:aP} {e:List (Nat×aP)} {p:List PanicEntry→aP} {a:Act} {w:World}
variable {D:List Deferred} {k:Nat} {L:bX} {ops:Array Oper} {rest:List Oper} {d:Nat} {ty:TypeId} {pos:String} {af:Array Edge} {dst:Option Nat}
variable {M:Prop} {w0:World} {H0:Hp} {Hs:List Hp} {σ:aN}
theorem OX {α:Type} {R:Hp→List Value→α→Prop} {size:Nat} {H:Hp} {l:List α} {ad:Option Addr} {cap ln:Nat} {t el:TypeId} {x lo hi:Operand} (i j:Nat) {kl kh:IntKind} {ml mh:Int} (hA:aV D k a L) (hd:Nat.blt d k=true) (hx:ev L x=some (.slice ad ln cap)) (hu:P.underlying t=some (.slice el)) (hz:∀ w,(Go.sizeOf el).run P w=.ok size w) (hl:Sl R size H ad cap l) (hln:ln=l.length)
  (hlo:ev L lo=some (.int kl ml)) (hhi:ev L hi=some (.int kh mh)) (hi1:ml=(i:Int)) (hj1:mh=(j:Int)) (hij:i≤j) (hj:j≤l.length)
  (h:∀ ad' cap',Sl R size H ad' cap' ((l.drop i).take (j - i))→∀ a,aV D k a ((d,.slice ad' ((l.drop i).take (j - i)).length cap')::L)→O P r ops n p rest a w):O P r ops n p (⟨some d,.slice t x (some lo) (some hi) none,ty,pos,af,none⟩::rest) a w :=
 KM i j hA hd hx hu hz hl hln (by simp [iG,hlo,hi1]) (by simp [iG,hhi,hj1]) hij hj h
theorem OY {α:Type} {R:Hp→List Value→α→Prop} {size:Nat} {H:Hp} {l:List α} {ad:Option Addr} {cap ln:Nat} {t el:TypeId} {x lo:Operand} (i:Nat) {kl:IntKind} {ml:Int} (hA:aV D k a L) (hd:Nat.blt d k=true) (hx:ev L x=some (.slice ad ln cap)) (hu:P.underlying t=some (.slice el)) (hz:∀ w,(Go.sizeOf el).run P w=.ok size w) (hl:Sl R size H ad cap l) (hln:ln=l.length)
  (hlo:ev L lo=some (.int kl ml)) (hi1:ml=(i:Int)) (hij:i≤l.length)
  (h:∀ ad' cap',Sl R size H ad' cap' (l.drop i)→∀ a,aV D k a ((d,.slice ad' (l.drop i).length cap')::L)→O P r ops n p rest a w):O P r ops n p (⟨some d,.slice t x (some lo) none none,ty,pos,af,none⟩::rest) a w:=by
 have e:(l.drop i).take (l.length - i)=l.drop i:=List.take_of_length_le (by simp);refine KM i l.length hA hd hx hu hz hl hln (by simp [iG,hlo,hi1]) (by simp [iG,hln]) hij (Nat.le_refl _) ?_;rw [e];exact h
theorem OZ {α:Type} {R:Hp→List Value→α→Prop} {size:Nat} {H:Hp} {l:List α} {ad:Option Addr} {cap ln:Nat} {t el:TypeId} {x hi:Operand} (j:Nat) {kh:IntKind} {mh:Int} (hA:aV D k a L) (hd:Nat.blt d k=true) (hx:ev L x=some (.slice ad ln cap)) (hu:P.underlying t=some (.slice el)) (hz:∀ w,(Go.sizeOf el).run P w=.ok size w) (hl:Sl R size H ad cap l) (hln:ln=l.length)
  (hhi:ev L hi=some (.int kh mh)) (hj1:mh=(j:Int)) (hj:j≤l.length)
  (h:∀ ad' cap',Sl R size H ad' cap' (l.take j)→∀ a,aV D k a ((d,.slice ad' (l.take j).length cap')::L)→O P r ops n p rest a w):O P r ops n p (⟨some d,.slice t x none (some hi) none,ty,pos,af,none⟩::rest) a w:=by
 have e:(l.drop 0).take (j - 0)=l.take j:=by simp
 refine KM 0 j hA hd hx hu hz hl hln (by simp [iG]) (by simp [iG,hhi,hj1]) (Nat.zero_le _) hj ?_;rw [e];exact h
end
theorem tG {b:Bool} (h:(!b)=true):b=false:=by cases b <;> simp_all
theorem tH {b:Bool} (h:(!b)=false):b=true:=by cases b <;> simp_all
theorem eG {P:Program} {t:TypeId} {i:TypeInfo} (h:P.types[t]?=some i):P.info? t=some i:=by
 unfold Tables.info?;rw [if_pos (Array.getElem?_eq_some_iff.1 h).1];exact h
theorem qA {P:Program} {w:World} {t:TypeId} {k k':IntKind} {a b:Int} (h:P.underlying t=some (.int k')):(Op.equalIn 9999 t (.int k a) (.int k b)).run P w=.ok (a==b) w:=run_equalIn_int w 9998 t k k' a b h
def qB {α:Type} (l:List α):List Nat→List α
 | []=>[]
 | i::is=>match l[i]? with
  | some x=>x::qB l is
  | none=>qB l is
theorem kW {α:Type} {l:List α} {x:α}:∀ {is:List Nat},x∈qB l is→x∈l
 | [],h=>by simp [qB] at h
 | i::is,h=>by
  simp only [qB] at h
  split at h
  ·rename_i y hy
   rcases List.mem_cons.1 h with rfl | h
   ·exact List.mem_of_getElem? hy
   exact kW h
  exact kW h
theorem St.selH {M:Prop} {w0 w:World} {H0:Hp} {Hs Hs':List Hp} {σ:aN} (hS:St M w0 H0 Hs σ w) (is:List Nat) (h:qB Hs is=Hs'):St M w0 H0 Hs' σ w:=by
 subst h;exact ⟨hS.h0,hS.ext,fun H hH=>hS.le H (kW hH),hS.own,hS.apart⟩
section
variable {P:Program} {r:Option Nat} {n:aP} {p:List PanicEntry→aP} {a:Act} {w:World} {D:List Deferred} {k:Nat} {L:bX} {ops:Array Oper} {rest:List Oper} {d:Nat} {ty:TypeId} {pos:String} {af:Array Edge}
theorem UL {s:TypeId} {x:Operand} {ad:Addr} {i sz:Nat} (off:Nat) {fs:Array Field} {f:Field} (hA:aV D k a L) (hd:Nat.blt d k=true) (hx:ev L x=some (.pointer (some ad))) (hu:P.underlying s=some (.struct fs)) (hf:fs[i]?=some f) (ho:f.offset=off) (hz:∀ w,(Go.sizeOf f.type).run P w=.ok (sz+1) w)
  (h:∀ a,aV D k a ((d,.pointer (some (ad.add off)))::L)→O P r ops n p rest a w):O P r ops n p (⟨some d,.fieldAddr s x i,ty,pos,af,none⟩::rest) a w:=by
 subst ho;exact UJ hA hd hx hu hf hz h
theorem KP {op:Op} {j dj:Nat} {wt:Bool} (hA:aV D k a L) (hj:(ops[j]?).bind (·.dst)=some dj) (hb:lk L dj=some undef) (hd:Nat.blt d k=true)
  (h:∀ a,aV D k a ((d,undef)::L)→O P r ops n p rest a w):O P r ops n p (⟨some d,op,ty,pos,af,some (j,wt)⟩::rest) a w:=by
 have hy:yielded ops a.tmps j=none:=by simp [yielded,hj,hA.get _ _ hb,undef]
 simp only [O,Region.wanted,hy];rw [if_neg (by simp)];exact h _ (hA.put hd _)
end
end Pk
namespace Pk
open Go
theorem Rows.sl {α:Type} {R:Hp→List Value→α→Prop} {size:Nat} {K:Hp} {q:Addr} {css:List (List Value)} {l:List α} (hR:Rows R size K css l) (hq:q.spot=none) (h:bC K q css.flatten) (cap:Nat) (hc:l.length≤cap) (hm:cap≤9223372036854775807):Sl R size K (some q) cap l:=by
 refine ⟨⟨hc,hm⟩,fun i x hx=>?_⟩;obtain ⟨cs,h1,h2,h3,h4⟩:=hR.get i x hx;refine ⟨q,cs,rfl,hq,h2,?_,h3⟩;rw [dX hq];refine ⟨rfl,fun j v hj=>?_⟩;exact h.2 (i*size+j) v (h4 j v hj) |> fun ⟨c,ty,fz,a1,a2⟩=>⟨c,ty,fz,a1,by rw [← a2];simp only;congr 1;omega⟩
theorem Sl.litR {α:Type} {R:Hp→List Value→α→Prop} {size:Nat} {K:Hp} {q:Addr} {css:List (List Value)} {l:List α} (hR:Rows R size K css l) (hq:q.spot=none) (h:bC K q css.flatten) (hm:Nat.ble l.length 1073741824=true):Sl R size K (some q) l.length l :=
 hR.sl hq h l.length (Nat.le_refl _) (by have:=Nat.le_of_ble_eq_true hm;omega)
theorem St.skip1 {M:Prop} {w0 w:World} {H0 A B:Hp} {Hs:List Hp} {σ:aN} (h:St M w0 H0 (A::B::Hs) σ w):St M w0 H0 (A::Hs) σ w :=
 ⟨h.h0,h.ext,fun K hK=>h.le K (by rcases List.mem_cons.1 hK with rfl | hK <;> simp [*]),h.own,h.apart⟩
def oW {α:Type} (R:Hp→List Value→α→Prop):Prop:=∀ H cs x,R H cs x→cs.all (·.oneCell')=true
theorem kA.one {α:Type} {R:Hp→List Value→α→Prop} {size:Nat}:oW (kA R size):=fun _ _ _ ⟨_,_,h,_⟩=>by subst h;rfl
theorem Sl.rows {α:Type} {R:Hp→List Value→α→Prop} {size:Nat} {H:Hp} {p:Addr} {cap:Nat} {l:List α} (h:Sl R size H (some p) cap l) (ho:oW R) (hp:p.spot=none):∃ css,Rows R size H css l∧bC H p css.flatten∧css.flatten.length=l.length*size∧css.flatten.all (·.oneCell')=true:=by
 have:∀ n,n≤l.length→∃ css,Rows R size H css (l.take n)∧bC H p css.flatten∧css.flatten.length=n*size∧css.flatten.all (·.oneCell')=true:=by
  intro n
  induction n with
  | zero=>intro _;exact ⟨[],trivial,⟨hp,fun j v hj=>by simp at hj⟩,by simp,rfl⟩
  | succ n ih =>
   intro hn;obtain ⟨css,h1,h2,h3,h4⟩:=ih (by omega);obtain ⟨x,hx⟩:=lW (l:=l) (j:=n) (by omega);obtain ⟨cs,k1,k2,k3⟩:=h.at hx;refine ⟨css++[cs],?_,?_,?_,?_⟩
   ·rw [GM hx];exact h1.snoc k1 (ho _ _ _ k3) k3
   ·refine ⟨hp,fun j v hj=>?_⟩;simp only [List.flatten_append,List.flatten_cons,List.flatten_nil,List.append_nil] at hj;by_cases hlt:j < css.flatten.length
    ·rw [List.getElem?_append_left hlt] at hj;exact h2.2 j v hj
    rw [List.getElem?_append_right (by omega)] at hj;obtain ⟨c,ty,fz,a1,a2⟩:=k2.2 _ v hj;rw [dX hp] at a1 a2;refine ⟨c,ty,fz,a1,?_⟩;rw [← a2];simp only;congr 1;rw [h3];rw [h3] at hlt;omega
   ·simp only [List.flatten_append,List.flatten_cons,List.flatten_nil,List.append_nil,List.length_append,h3,k1,Nat.add_mul,Nat.one_mul]
   simp only [List.flatten_append,List.flatten_cons,List.flatten_nil,List.append_nil,List.all_append,h4,ho _ _ _ k3,Bool.and_self]
 obtain ⟨css,h1,h2,h3,h4⟩:=this l.length (Nat.le_refl _);rw [List.take_length] at h1;exact ⟨css,h1,h2,h3,h4⟩
theorem Rows.append {α:Type} {R:Hp→List Value→α→Prop} {size:Nat} {H:Hp}:∀ {css dss:List (List Value)} {l m:List α},Rows R size H css l→Rows R size H dss m→Rows R size H (css++dss) (l++m)
 | [],_,[],_,_,h2=>h2
 | _::_,_,_::_,_,h1,h2=>⟨h1.1,Rows.append h1.2 h2⟩
 | [],_,_::_,_,h1,_=>h1.elim
 | _::_,_,[],_,h1,_=>h1.elim
section
variable {P:Program} {r:Option Nat} {n rt:aP} {e:List (Nat×aP)} {p:List PanicEntry→aP} {a:Act} {w:World}
variable {D:List Deferred} {k:Nat} {L:bX} {ops:Array Oper} {rest:List Oper} {d:Nat} {ty:TypeId} {pos:String} {af:Array Edge} {dst:Option Nat}
variable {M:Prop} {w0:World} {H0:Hp} {Hs:List Hp} {σ:aN}
theorem FinF.mk {K:Hp} {L:bX} {α:Type} {f:α→Value} {G:α→Hp→Prop} (x:α) (hS:St M w0 H0 (K::Hs) σ w) (hA:aV D k a ((d,f x)::L)) (hG:G x K):O P r ops (fun a' w'=>∃ (x:α) (K':Hp),K.le K'∧St M w0 H0 (K'::Hs) σ w'∧a'.tmps[d]?=some (f x)∧a'.defers=D∧G x K') p [] a w :=
 ⟨x,K,Hp.le.refl _,hS,hA.get _ _ (by simp [lk]),hA.defers,hG⟩
theorem KQ (tg:Nat) {α:Type} {R:Hp→List Value→α→Prop} {l m:List α} {css:List (List Value)} {H:Hp} {t el:TypeId} {s x:Operand} {z:List Value} {size bytes:Nat} {ad sad:Option Addr} {cap nn mm c:Nat} (hA:aV D k a L) (hd:Nat.blt d k=true) (hS:St M w0 H0 (H::Hs) σ w) (he:cP P t el z size bytes) (hs:ev L s=some (.slice ad nn cap)) (hσ:cE σ tg=some (.rows ad cap el size css l)) (hn:nn=l.length) (hx:ev L x=some (.slice sad mm c)) (hmm:mm=m.length) (hm:Sl R size H sad c m) (hR:Rows R size H css l) (ho:oW R) (hpos:0 < m.length)
  (h2:l.length+m.length≤1073741824) (hby:Nat.ble bytes 131072=true)
  (h:∀ ad' cap' css' w',Rows R size H css' (l++m)→St M w0 H0 (H::Hs) (dY σ tg (.rows ad' cap' el size css' (l++m))) w'→∀ a,aV D k a ((d,.slice ad' (l++m).length cap')::L)→O P r ops n p rest a w'):O P r ops n p (⟨some d,.call ⟨.builtin .append,#[s,x],#[t,t]⟩,ty,pos,af,none⟩::rest) a w:=by
 subst hn;subst hmm;obtain ⟨x0,hx0⟩:=lW hpos;obtain ⟨p,_,h1,h0,_⟩:=hm.2 0 x0 hx0;subst h1;obtain ⟨dss,k1,k2,k3,k4⟩:=hm.rows ho h0;refine pW tg hA hd hS he hs hσ hx (news:=dss.flatten) ⟨k3,k4,.inr ⟨p,rfl,k2.mono (hS.hp 0 rfl)⟩⟩ h2 hby fun ad' cap' w' hS a hA=>?_;have e1:l.length+m.length=(l++m).length:=by simp
 have e2:css.flatten++dss.flatten=(css++dss).flatten:=by simp
 rw [e1,e2] at hS;rw [e1] at hA;exact h ad' cap' (css++dss) w' (hR.append k1) hS a hA
end
end Pk
