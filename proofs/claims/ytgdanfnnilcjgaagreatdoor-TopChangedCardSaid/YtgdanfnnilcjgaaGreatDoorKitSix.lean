/-
  The kit,third text: ranges over functions,errors,arguments;plain lemmas on models.
-/
import Derived.Test.YtgdanfnnilcjgaaGreatDoorKitTwo
import Derived.RangeFuncLeaves
import Derived.RangeFuncRecord
import Derived.RangeFuncOwn
import Derived.RangeFuncNested
import Derived.WideLaws
import Derived.Shelf.Strconv.AtoiAll
import Derived.Shelf.Strconv.Itoa3
import Derived.Carry
import Derived.ProofKit
import Derived.LaidMore
import Derived.OpenShut
import Derived.Stop.Joined
import Derived.Shelf.SlSortCmp.NoneTotal
import Derived.Shelf.Vars
import Derived.Lib.AppendZeros
import Derived.SizedLaws
import Derived.Laws.BytesArg
import Derived.Lib.SlicesCompact
import Derived.Lib.AppendStr
import Derived.Maps.RangeRun
import Derived.Laws.Pointers
import Derived.Lib.SlBytesConst
import Derived.Laws.CopyRow
set_option linter.all false
namespace Pk
open Go
section
variable {P:Program} {r:Option Nat} {n rt:aU} {e:List (Nat×aU)} {p:List PanicEntry→aU} {x:Fr} {Hs:List Hp} {σ:aS} {L:bU} {N:aU}
def SP (P:Program) (fn:Func) (R:Ending→World→Prop) (D:List Deferred):aU:=fun a w=>LeavesInM (FW none) 0 P fn a.tmps R D .returning w
def IF (P:Program) (fn:Func) (R:Ending→World→Prop):aU:=fun a w=>LeavesInM (FW none) 0 P fn a.tmps R a.defers .returning w
abbrev OB (b:Nat):Deferred:={ target:=.collected b,args:=#[] }
theorem BI {f:FuncId} {fn:Func} {c:Code} {nt:Nat} {w:World} {R:Ending→World→Prop} {l:List Value} (hf:P.funcs[f]?=some fn) (hb:fn.body=some c) (hn:fn.ntmps=nt) (hl:Nat.ble l.length nt=true)
  (h:∀ a,aV [] nt a (fZ 0 l)→W P none c (IF P fn R) (IF P fn R) [] (fun _ _ _=>False) a w):Calls P f l.toArray w R:=by
 have hl':l.length≤nt:=by simpa using hl
 have h1:=h { tmps:=l.toArray++Array.replicate (fn.ntmps - l.toArray.size) undef,defers:=[] } ⟨rfl,by simp [hn];omega,fun i v hi=>by
  obtain ⟨_,h2⟩:=mA l 0 i v hi;simp only [Nat.sub_zero] at h2;have hlt:i < l.length:=(List.getElem?_eq_some_iff.1 h2).1;rw [Array.getElem?_append_left (by simpa using hlt)]
  simpa using h2⟩
 refine (callsIn_wide (n:=0)).1 (callsIn_of_wp_marks hf hb trivial ?_);refine wpIn_mono h1 ?_;intro z a w hz
 cases z with
 | normal=>exact hz
 | ret=>exact hz
 | panic ch=>exact hz.elim
 | exit id=>obtain ⟨K,hK,_⟩:=hz;simp [wL] at hK
 | goto l=>exact hz
 | outgrown=>exact hz.elim
theorem tQ {M:Prop} {f:FuncId} {fn:Func} {c:Code} {nt:Nat} {w:World} {R:Ending→World→Prop} {l:List Value} (hf:P.funcs[f]?=some fn) (hb:fn.body=some c) (hn:fn.ntmps=nt) (hl:Nat.ble l.length nt=true) {H:Hp} (hH:H.le (hp w))
  (h:TG ⟨[],nt,M,w,H⟩ [H] [] (fZ 0 l) (W P none c (IF P fn R) (IF P fn R) [] (fun _ _ _=>False))):Calls P f l.toArray w R :=
 BI hf hb hn hl fun a hA=>h a w (St.start M w hH) hA
variable {fn:Func} {R:Ending→World→Prop} {D:List Deferred} {k:Nat} {M:Prop} {w0:World} {H0:Hp}
theorem KD (h:TG ⟨D,k,M,w0,H0⟩ Hs σ L (SP P fn R D)):TG ⟨D,k,M,w0,H0⟩ Hs σ L (IF P fn R):=fun a w hS hA=>by
 have:=h a w hS hA;unfold IF;rw [hA.defers];exact this
theorem St.put {t b:Nat} {o o':Obj} {w:World} (hS:St M w0 H0 Hs σ w) (hσ:cD σ t=some (.blk b o)):St M w0 H0 Hs (dE σ t (.blk b o')) (w.putObj b o'):=by
 have hb:w.heap[b]?=some o:=hS.get hσ;exact hS.step hσ (y:=.blk b o') ⟨grownBy_putObj' w b o',Nat.le_refl _⟩ (World.putObj_heap_same (Array.getElem?_eq_some_iff.1 hb).1) (fun _ h=>.inl h)
theorem OC (t:Nat) {b:Nat} (hσ:cD σ t=some (.blk b (.deferred (some [])))) (h:TG x Hs (dE σ t (.blk b (.deferred none))) L (SP P fn R D)):TG x Hs σ L (SP P fn R (OB b::D)):=fun a w hS hA=>by
 have hb:w.heap[b]?=some (.deferred (some [])):=hS.get hσ;exact ⟨by simp,.inl ⟨b,_,rfl,run_takeDeferred hb,h a _ (St.put hS hσ) hA⟩⟩
theorem KE {D':List Deferred} (h:TG ⟨[],k,M,w0,H0⟩ Hs σ L (Rt P fn R)):TG ⟨D',k,M,w0,H0⟩ Hs σ L (SP P fn R []):=fun a w hS hA=>by
 obtain ⟨_,v,h1,h2⟩:=h { a with defers:=[] } w hS ⟨rfl,hA.size,hA.get⟩;exact ⟨v,h1,h2⟩
abbrev LR (fn:FuncId) (tm:Array Value) (ps:Array Tmp) (asg body:Code) (dB:Nat) (st:LoopState) (pe:Option Code):Obj:=.loop { state:=st,pending:=pe,fn:=fn,tmps:=tm,params:=ps,assign:=asg,body:=body,defers:=dB }
def IG (O:LoopState→Option Code→Obj) (tm:Array Value) (ps:List Tmp) (asg body:Code):Prop:=∃ fn dB,∀ s q,O s q=LR fn tm ps.toArray asg body dB s q
def EL (P:Program) (r:Option Nat) (l:Nat) (n rt:aU) (e:List (Nat×aU)) (p:List PanicEntry→aU):aU:=fun a w=>∃ jump w',(Instr.endLoop l).run P w=.ok jump w'∧(match jump with | none=>n a w' | some c=>W P r c n rt e p a w')
theorem GL {f:FuncId} {args:Array Value} {w:World} (h:Calls P f args w R):CallsIn (FW r) (0 - 1) P f args w R:=(callsIn_wide (n:=0)).2 h
theorem SQ {g:Operand} {ps:List Tmp} {asg body:Code} {f:FuncId} {fnc:Func} {cd:Code} {nt:Nat} {cap:List Value} (tl tD:Nat)
  (hcall:∀ args w,(callFunc f args).run P w=.ok (.enter f args) w) (hfn:P.funcs[f]?=some fnc) (hb:fnc.body=some cd) (hn:fnc.ntmps=nt)
  (hg:ev L g=some (.func (.func f) #[] cap.toArray)) (hl:Nat.ble (cap.length+1) nt=true) (J:Nat→Nat→(LoopState→Option Code→Obj)→World→Prop)
  (h1:∀ l dB O tm,aV [] x.k ⟨tm,[]⟩ L→IG O tm ps asg body→TG ⟨[],nt,x.M,x.w0,x.H0⟩ Hs ((tl,.blk l (O .ready none))::(tD,.blk dB (.deferred (some [])))::σ) (fZ 0 (.func (.yield l) #[] #[]::cap))
   (W P none cd (Rt P fnc fun e w=>∃ v,e=.returned v∧J l dB O w) (Rt P fnc fun e w=>∃ v,e=.returned v∧J l dB O w) [] (fun _ _ _=>False)))
  (h2:∀ l dB O tm a w,IG O tm ps asg body→aV (OB dB::x.D) x.k a L→J l dB O w→EL P none l n rt e p a w):TG x Hs σ L (W P none (.rangeFunc g ps.toArray asg body) n rt e p):=fun a w hS hA=>by
 refine wpIn_rangeFunc fun fn _=>?_;obtain ⟨O,hO⟩:∃ O:LoopState→Option Code→Obj,∀ s q,O s q=LR fn a.tmps ps.toArray asg body w.heap.size s q:=⟨_,fun _ _=>rfl⟩;have hR:IG O a.tmps ps asg body:=⟨fn,_,hO⟩;obtain ⟨W1,hW1⟩:∃ W1,(w.alloc (.deferred (some []))).alloc (O .ready none)=W1:=⟨_,rfl⟩;refine ⟨w.heap.size+1,[OB w.heap.size],W1,⟨.fn (.func f) cap.toArray,#[.func (.yield (w.heap.size+1)) #[] #[]]⟩,W1,f,(.func (.yield (w.heap.size+1)) #[] #[]::cap).toArray,W1,by rw [← hW1,hO];exact run_enterLoop_outer fn a.tmps ps.toArray asg body,?_,?_,?_,?_,?_⟩
 ·simp only [resolve,hA.eval hg];simp [go_sem,Deferred.ofValue]
 ·intro _ _;trivial
 ·simp [invoke,hcall]
 ·intro h;simp [FW] at h
 have hS1:=hS.add (gZ.alloc _ w (.deferred (some []))) tD (x:=.blk w.heap.size (.deferred (some []))) (dP w _) (fun b hb=>by simp [aJ.foot] at hb;omega);have hS2:=hS1.add (gZ.alloc _ _ (O .ready none)) tl (x:=.blk (w.heap.size+1) (O .ready none)) (by have:=dP (w.alloc (.deferred (some []))) (O .ready none);simpa [aJ.holds] using this) (fun b hb=>by simp [aJ.foot] at hb;simp;omega);have hT:aV [] x.k ⟨a.tmps,[]⟩ L:=⟨rfl,hA.size,hA.get⟩;rw [hW1] at hS2
 have hc:Calls P f (.func (.yield (w.heap.size+1)) #[] #[]::cap).toArray W1 (fun e' w'=>∃ v,e'=.returned v∧J (w.heap.size+1) w.heap.size O w') :=
  enter hfn hb hn (by simpa using hl) fun a' hA'=>lL (fun _ _ h=>h) (fun _ _ h=>h) (fun _ K _ _ hK h=>⟨K,hK,h⟩) (fun _ _ _ h=>h.elim) (h1 _ _ O a.tmps hT hR a' _ hS2 hA')
 refine (GL hc).mono ?_;rintro e' w' ⟨v,rfl,hJ⟩;have hA2:aV (OB w.heap.size::x.D) x.k { a with defers:=[OB w.heap.size]++a.defers } L:=⟨by simp [hA.defers],hA.size,hA.get⟩;exact h2 _ _ O a.tmps _ w' hR hA2 hJ
theorem nI:∀ (σ:aS) (t:Nat) (y:aJ),eX (dE σ t y) t=eX σ t
 | [],_,_=>rfl
 | (i,z)::σ,t,y=>by
  by_cases e:i=t
  ·subst e;simp [dE,eX]
  simp only [dE,eX,dW e,cond_false,nI σ t y]
theorem SR (t:Nat) {l:Nat} {O:LoopState→Option Code→Obj} {tm:Array Value} {ps:List Tmp} {asg body:Code} (hO:IG O tm ps asg body) (hσ:cD σ t=some (.blk l (O .ready none))) (h:TG x Hs (eX σ t) L n):TG x Hs σ L (EL P r l n rt e p):=fun a w hS hA=>by
 have hb:w.heap[l]?=some (O .ready none):=hS.get hσ;obtain ⟨fn,dB,hO⟩:=hO;rw [hO] at hb;exact ⟨_,_,run_endLoop hb (by simp),h a _ (by have:=(St.put (o':=LR fn tm ps.toArray asg body dB .exhausted none) hS hσ).del t;rwa [nI] at this) hA⟩
theorem elC (t:Nat) {l:Nat} {O:LoopState→Option Code→Obj} {tm:Array Value} {ps:List Tmp} {asg body:Code} {c:Code} (hO:IG O tm ps asg body) (hσ:cD σ t=some (.blk l (O .done (some c)))) (h:TG x Hs (eX σ t) L (W P r c n rt e p)):TG x Hs σ L (EL P r l n rt e p):=fun a w hS hA=>by
 have hb:w.heap[l]?=some (O .done (some c)):=hS.get hσ;obtain ⟨fn,dB,hO⟩:=hO;rw [hO] at hb;exact ⟨_,_,run_endLoop hb (by simp),h a _ (by have:=(St.put (o':=LR fn tm ps.toArray asg body dB .exhausted (some c)) hS hσ).del t;rwa [nI] at this) hA⟩
def BR (P:Program) (l:Nat) (N:aU):aU:=fun a w=>∃ w',(Instr.beginRound l).run P w=.ok () w'∧N a w'
def RE (P:Program) (l:Nat) (J:Value→World→Prop) (jump:Option Code):aU:=fun _ w=>∃ v w',(Instr.endRound l jump).run P w=.ok v w'∧J v w'
theorem bR (t:Nat) {l:Nat} {O:LoopState→Option Code→Obj} {tm:Array Value} {ps:List Tmp} {asg body:Code} (hO:IG O tm ps asg body) (hσ:cD σ t=some (.blk l (O .ready none))) (h:TG x Hs (dE σ t (.blk l (O .busy none))) L N):TG x Hs σ L (BR P l N):=fun a w hS hA=>by
 have hb:w.heap[l]?=some (O .ready none):=hS.get hσ;obtain ⟨fn,dB,hO⟩:=hO;rw [hO] at hb;exact ⟨_,run_beginRound hb rfl,h a _ (by have:=St.put (o':=O .busy none) hS hσ;rw [hO] at this ⊢;exact this) hA⟩
theorem eR (t:Nat) {l:Nat} {O:LoopState→Option Code→Obj} {tm:Array Value} {ps:List Tmp} {asg body:Code} {J:Value→World→Prop} (jump:Option Code) (hO:IG O tm ps asg body) (hσ:cD σ t=some (.blk l (O .busy none)))
  (h:∀ w,St x.M x.w0 x.H0 Hs (dE σ t (.blk l (O (if jump.isNone then .ready else .done) jump))) w→J (.bool jump.isNone) w):TG x Hs σ L (RE P l J jump):=fun a w hS hA=>by
 have hb:w.heap[l]?=some (O .busy none):=hS.get hσ;obtain ⟨fn,dB,hO⟩:=hO;rw [hO] at hb;exact ⟨_,_,run_endRound jump hb,h _ (by have:=St.put (o':=O (if jump.isNone then .ready else .done) jump) hS hσ;rw [hO] at this ⊢;exact this)⟩
theorem wU {ps:List Tmp} {vs:List Value} {k:Nat}:∀ {tm:Array Value} {L:bU},aV [] k ⟨tm,[]⟩ L→(ps.all fun t=>Nat.blt t k)=true→aV [] k ⟨(ps.zip vs).foldl (fun t (q,v)=>t.setIfInBounds q v) tm,[]⟩ ((ps.zip vs).reverse++L):=by
 intro tm L hT hp
 induction ps generalizing vs tm L with
 | nil=>exact hT
 | cons q ps ih =>
  cases vs with
  | nil=>exact hT
  | cons v vs =>
   simp only [List.all_cons,Bool.and_eq_true] at hp;have h1:aV [] k ⟨tm.setIfInBounds q v,[]⟩ ((q,v)::L):=by have:=hT.put (d:=q) hp.1 v;simpa [Act.put] using this
   have:=ih (vs:=vs) h1 hp.2;simpa using this
theorem xV {F:Nat→aU} {id:Nat} {K:aU}:∀ (ids:List Nat),wL (ids.map fun i=>(i,F i)) id=some K→K=F id
 | [],h=>by simp [wL] at h
 | i::ids,h=>by
  simp only [List.map_cons,wL] at h;by_cases e:i=id
  ·subst e;simp at h;exact h.symm
  rw [dW e] at h;exact xV ids h
theorem GM {ops:Array Oper} {rest:List Oper} {o:Oper} {l:Nat} {f:FuncId} {tm:Array Value} {asg body:Code} {J:Value→World→Prop} {a:Act} {w:World} (ids:List Nat) (hg:o.guard=none) (hd:∀ c,o.op≠.defer c) (hr:(execOp a.eval o).run P w=.ok (.round l f tm asg body) w)
  (h:W P (some l) asg (BR P l (W P (some l) body (RE P l J none) (RE P l J (some .ret)) (ids.map fun i=>(i,RE P l J (some (.exit i)))) (fun _ _ _=>False))) (fun _ _=>False) [] (fun _ _ _=>False) ⟨tm,[]⟩ w)
  (h2:∀ v w',J v w'→O P r ops n p rest (a.put o.dst v) w'):O P r ops n p (o::rest) a w:=by
 simp only [O,Region.wanted,hg,if_true];refine ⟨fun _ _=>trivial,?_⟩;rw [Oper.semAt_eq _ _ _ hd,hr];refine ⟨fun h=>by simp [FW] at h,?_⟩;have hRI:RoundIn (FW r) (0 - 1) P l f tm asg body w (fun e w'=>∃ v,e=.returned v∧J v w'):=by
  refine roundIn_of_wpIn trivial (wpIn_mono h ?_);intro z a1 w1 hz
  cases z with
  | normal =>
   obtain ⟨w2,hb,hB⟩:=hz;refine ⟨w2,hb,wpIn_mono hB ?_⟩;intro z a w hz
   cases z with
   | normal=>obtain ⟨v,w',h1,h2⟩:=hz;exact ⟨v,w',h1,v,rfl,h2⟩
   | ret=>obtain ⟨v,w',h1,h2⟩:=hz;exact ⟨v,w',h1,v,rfl,h2⟩
   | exit id =>
    obtain ⟨K,hK,hz⟩:=hz;have:K=RE P l J (some (.exit id)):=by
     exact xV (F:=fun i=>RE P l J (some (.exit i))) ids hK
    subst this;obtain ⟨v,w',h1,h2⟩:=hz;exact ⟨v,w',h1,v,rfl,h2⟩
   | panic c=>exact hz.elim
   | goto l=>exact hz.elim
   | outgrown=>exact hz.elim
  | ret=>exact hz.elim
  | exit id=>obtain ⟨K,hK,_⟩:=hz;simp [wL] at hK
  | panic c=>exact hz.elim
  | goto l=>exact hz.elim
  | outgrown=>exact hz.elim
 refine hRI.mono ?_;rintro e' w' ⟨v,rfl,hJ⟩;exact h2 v w' hJ
theorem zK {x:Operand} {xs:List Operand} {ats:Array TypeId} {l:Nat} {vs:List Value} {dst:Option Nat} {gd:Option (Nat×Bool)} {ty:TypeId} {pos:String} {af:Array Edge} {a:Act} {w:World} {D:List Deferred} {k:Nat} {rec:Loop} (hA:aV D k a L) (hf:ev L x=some (.func (.yield l) #[] #[])) (hxs:mX L xs=some vs)
  (h:w.heap[l]?=some (.loop rec)) (hs:vs.length=rec.params.size) :
  (execOp a.eval ⟨dst,.call ⟨.value x,xs.toArray,ats⟩,ty,pos,af,gd⟩).run P w=.ok (.round l rec.fn ((rec.params.zip vs.toArray).foldl (fun tmps (t,a)=>tmps.setIfInBounds t a) rec.tmps) rec.assign rec.body) w:=by
 have:=mB hA hxs;have hy:=run_yield (P:=P) (args:=vs.toArray) h (by simpa using hs);simp [execOp,resolve,hA.eval hf,Deferred.ofValue,invoke,this,hy]
theorem yl {y:Operand} {xs:List Operand} {ats:Array TypeId} {vs:List Value} {dst:Option Nat} {ty:TypeId} {pos:String} {af:Array Edge} {ops:Array Oper} {rest:List Oper} (t:Nat) {l:Nat} {Oj:LoopState→Option Code→Obj} {tm:Array Value} {ps:List Tmp} {asg body:Code} {k':Nat} {L' L1:bU} (ids:List Nat)
  (hy:ev L y=some (.func (.yield l) #[] #[])) (hxs:mX L xs=some vs) (hσ:cD σ t=some (.blk l (Oj .ready none))) (hT:aV [] k' ⟨tm,[]⟩ L') (hO:IG Oj tm ps asg body) (hlen:vs.length=ps.length) (hps:(ps.all fun t=>Nat.blt t k')=true) (hL:(ps.zip vs).reverse++L'=L1) (J:Value→World→Prop)
  (h1:TG ⟨[],k',x.M,x.w0,x.H0⟩ Hs σ L1 (W P (some l) asg (BR P l (W P (some l) body (RE P l J none) (RE P l J (some .ret)) (ids.map fun i=>(i,RE P l J (some (.exit i)))) (fun _ _ _=>False))) (fun _ _=>False) [] (fun _ _ _=>False)))
  (h2:∀ a w v,aV x.D x.k a L→J v w→O P r ops n p rest (a.put dst v) w):OG P r ops n p x Hs σ L (⟨dst,.call ⟨.value y,xs.toArray,ats⟩,ty,pos,af,none⟩::rest):=fun a w hS hA=>by
 subst hL;have hb:w.heap[l]?=some (Oj .ready none):=hS.get hσ;obtain ⟨fn,dB,hO⟩:=hO;rw [hO] at hb;refine GM (J:=J) ids rfl (fun _ h=>by cases h) (zK hA hy hxs hb (by simpa using hlen)) ?_ (fun v w' hJ=>h2 a w' v hA hJ);have:=h1 _ w hS (wU (vs:=vs) hT hps);simpa using this
theorem UA {y:Operand} {xs:List Operand} {ats:Array TypeId} {f:FuncId} {fnc:Func} {cd:Code} {nt:Nat} {first cap:List Value} {vs args:List Value} {dst:Option Nat} {ty:TypeId} {pos:String} {af:Array Edge} {ops:Array Oper} {rest:List Oper} (hcall:∀ args w,(callFunc f args).run P w=.ok (.enter f args) w) (hfn:P.funcs[f]?=some fnc) (hb:fnc.body=some cd) (hn:fnc.ntmps=nt) (hf:ev L y=some (.func (.func f) first.toArray cap.toArray)) (hxs:mX L xs=some vs) (hargs:first++vs++cap=args) (hl:Nat.ble args.length nt=true) (J:Value→World→Prop)
  (h1:TG ⟨[],nt,x.M,x.w0,x.H0⟩ Hs σ (fZ 0 args) (W P none cd (IF P fnc fun e w=>∃ v,e=.returned v∧J v w) (IF P fnc fun e w=>∃ v,e=.returned v∧J v w) [] (fun _ _ _=>False)))
  (h2:∀ a w v,aV x.D x.k a L→J v w→O P r ops n p rest (a.put dst v) w):OG P r ops n p x Hs σ L (⟨dst,.call ⟨.value y,xs.toArray,ats⟩,ty,pos,af,none⟩::rest):=fun c w hS hA=>by
 subst hargs;have hcs:Calls P f (first++vs++cap).toArray w (fun e w=>∃ v,e=.returned v∧J v w):=BI hfn hb hn hl fun a hA'=>by
  refine lL (fun _ _ h=>h) (fun _ _ h=>h) (fun _ K _ _ hK h=>⟨K,hK,h⟩) (fun _ _ _ h=>h.elim) (h1 a w hS hA')
 refine iL rfl (fun _ h=>by cases h) (gA hA hf hxs hcall) (by simpa using hcs) ?_ ?_ ?_
 ·rintro v w' ⟨u,hu,hJ⟩;cases hu;exact h2 c w' v hA hJ
 ·rintro ch w' ⟨u,hu,_⟩;cases hu
 rintro w' ⟨u,hu,_⟩;cases hu
theorem OD {y:Operand} {xs:List Operand} {ats:Array TypeId} {f:FuncId} {fnc:Func} {cd:Code} {nt:Nat} {first cap:List Value} {vs args:List Value} {dst:Option Nat} {ty:TypeId} {pos:String} {af:Array Edge} {ops:Array Oper} {rest:List Oper} (hcall:∀ args w,(callFunc f args).run P w=.ok (.enter f args) w) (hfn:P.funcs[f]?=some fnc) (hb:fnc.body=some cd) (hn:fnc.ntmps=nt) (hf:ev L y=some (.func (.func f) first.toArray cap.toArray)) (hxs:mX L xs=some vs) (hargs:first++vs++cap=args) (hl:Nat.ble args.length nt=true)
  (h1:TG ⟨[],nt,x.M,x.w0,x.H0⟩ Hs σ (fZ 0 args) (W P none cd (Rt P fnc fun e w=>∃ v,e=.returned v∧∀ a,aV x.D x.k a L→O P r ops n p rest (a.put dst v) w) (Rt P fnc fun e w=>∃ v,e=.returned v∧∀ a,aV x.D x.k a L→O P r ops n p rest (a.put dst v) w) [] (fun _ _ _=>False))) :
  OG P r ops n p x Hs σ L (⟨dst,.call ⟨.value y,xs.toArray,ats⟩,ty,pos,af,none⟩::rest) :=
 jR hcall hfn hb hn hf hxs hargs hl (fun v w=>∀ a,aV x.D x.k a L→O P r ops n p rest (a.put dst v) w) h1 fun a w v hA hJ=>hJ a hA
end
end Pk
namespace Pk
open Go Go.RowKit
def OE (v:Value):Prop:=v=.nilIface∨∃ te pe,v=.iface te pe
def Er (v:Value) (b:Bool):Prop:=(b=false∧v=.nilIface)∨(b=true∧∃ t u,v=.iface t u)
structure Gl (M:Prop) (gS gR gT:Nat) (H:Hp):Prop where
 nq:¬M
 syn:∃ ev,aY H ⟨gS,0,none⟩ [ev]∧OE ev
 rng:∃ ev,aY H ⟨gR,0,none⟩ [ev]∧OE ev
 tab:∃ t z,H gT=some (.cells (Lib.pow10Tab.map fun i=>Value.int .u64 i).toArray t z)
theorem Gl.mono {M:Prop} {gS gR gT:Nat} {H K:Hp} (h:Gl M gS gR gT H) (hk:H.le K):Gl M gS gR gT K:=by
 obtain ⟨hn,⟨a,h1,h2⟩,⟨b,h3,h4⟩,⟨t,z,h5⟩⟩:=h;exact ⟨hn,⟨a,h1.mono hk,h2⟩,⟨b,h3.mono hk,h4⟩,⟨t,z,hk _ _ h5⟩⟩
theorem xW {w:World} {H:Hp} {g:Nat} {v:Value} (hH:H.le (hp w)) (h:aY H ⟨g,0,none⟩ [v]):w.cell? ⟨g,0,none⟩=some v:=by
 obtain ⟨_,h⟩:=h;obtain ⟨cs,t,z,h1,h2⟩:=h 0 v rfl;have:=hH _ _ h1;simp [World.cell?,show w.heap[g]?=_ from this];simpa using h2
theorem BJ {P:Program} {w:World} {H:Hp} {g:Nat} {nm:String} (hn:P.globalNamed nm=some g) (hH:H.le (hp w)) (h:∃ t z,H g=some (.cells (Lib.pow10Tab.map fun i=>Value.int .u64 i).toArray t z)):Lib.TabIs P w nm .u64 Lib.pow10Tab:=by
 obtain ⟨t,z,h⟩:=h;have:=hH _ _ h;simp [Lib.TabIs,World.var?,hn,show w.heap[g]?=_ from this]
theorem gZ.of_below {M:Prop} {w w':World} (hM:¬M) (h:Below w.heap.size w w'):gZ M w w':=⟨h.os,h.tape,h.output,h.size,fun b hb=>h.block b hb,fun q=>absurd q hM⟩
def lE (s:aD):Int×Bool:=match Lib.atoiAll s with
 | .ok v=>(v,false)
 | .range=>(Lib.atoiSat s,true)
 | _=>(0,true)
noncomputable def BK (s:aD):Option (Int×Bool):=cE (s.length≤1073741824) (some (lE s))
noncomputable def xX (n:Int):Option aD:=cE (-9223372036854775808≤n∧n≤9223372036854775807) (some (Lib.itoa n))
section
variable {P:Program} {r:Option Nat} {n:aU} {p:List PanicEntry→aU} {ops:Array Oper} {rest:List Oper} {d:Nat} {ty:TypeId} {pos:String} {af:Array Edge} {x:Fr} {Hs:List Hp} {σ:aS} {L:bU}
theorem neE {y:Operand} {t u:TypeId} {v:Value} {b:Bool} {ms:_} (hu':P.underlying t=some (.interface ms)) (hd:Nat.blt d x.k=true) (hy:ev L y=some v) (hb:Er v b) (h:OG P r ops n p x Hs σ ((d,.bool b)::L) rest):OG P r ops n p x Hs σ L (⟨some d,.binOp .neq t y (.const .nilIface) u,ty,pos,af,none⟩::rest):=fun a w hS hA=>by
 have hu:P.underlying t=some (.interface (P.methodsAt t)):=by rw [hu'];simp [Program.methodsAt,hu']
 refine cW rfl (fun _ h=>by cases h) (w':=w) (v:=.bool b) ?_ (h _ w hS (hA.put hd _));rcases hb with ⟨rfl,rfl⟩ | ⟨rfl,te,pe,rfl⟩ <;> simp [execOp,hA.eval hy,show a.eval (.const .nilIface)=.nilIface from rfl,eqGuard,run_neq_nil_nil w t hu,run_neq_held_nil w t _ _ hu,run_eql_nil_nil w t hu,run_eql_held_nil w t _ _ hu,Result.andThen]
end
def oB {α:Type} (f:α→α→Option Int) (x y:α):Bool:=match f x y with
 | some c=>decide (c < 0)
 | none=>false
structure pU {α:Type} (f:α→α→Option Int) (l:List α):Prop where
 small:l.length≤1073741824
 some_:∀ x∈l,∀ y∈l,∃ c,f x y=some c
 irr:∀ x∈l,oB f x x=false
 tr:∀ x∈l,∀ y∈l,∀ z∈l,oB f x y=true→oB f y z=true→oB f x z=true
 tot:∀ x∈l,∀ y∈l,oB f x y=false→oB f y x=false→x=y
open Classical in
noncomputable def oC {α:Type} (f:α→α→Option Int) (l:List α):Option (List α):=if pU f l then some (l.mergeSort fun x y=>!oB f y x) else none
theorem pV {α:Type} {f:α→α→Option Int} {l l':List α} (h:oC f l=some l'):pU f l∧l.mergeSort (fun x y=>!oB f y x)=l':=by
 unfold oC at h
 split at h
 ·exact ⟨‹_›,Option.some.inj h⟩
 cases h
theorem rU {α:Type} {f:α→α→Option Int} {l l':List α} (h:oC f l=some l'):l'.length=l.length:=by
 rw [← (pV h).2,List.length_mergeSort]
end Pk
namespace Pk
open Go Go.RowKit Go.ChangeShapes Go.WideShapes
def lQ (P:Program) (w:World) (t:TypeId) (n:Nat) {α:Type} (R:Hp→List Value→α→Prop) (ok:α→Prop):Prop :=
 P.cellsOf t=n∧∀ {H:Type} (enc:TypeId×Value→H) (base:Nat) (sp:Nat→Bool) (held:Bool) (fuel:Nat) (cs:List Value) (x:DataW H×List MemPlace),DataW.trod enc P w base sp held fuel t cs=some x→cs.length=n∧∃ a,R (hp w) cs a∧ok a
abbrev eH (k:IntKind) (n:Int):Prop:=k.min≤n∧n≤k.max
abbrev wV {α:Type} (ok:α→Prop) (l:List α):Prop:=∀ x∈l,ok x
section
variable {P:Program} {w:World} {t e:TypeId}
theorem BL {α:Type} {R:Hp→List Value→α→Prop} {ok:α→Prop} {ds:TypeDesc} (_hu:P.underlying t=some ds) (hc:P.cellsOf t=1)
  (h0:∀ {H:Type} (enc:TypeId×Value→H) (base:Nat) (sp:Nat→Bool) (held:Bool) (fuel:Nat),DataW.trod enc P w base sp held (fuel+1) t []=none)
  (h2:∀ {H:Type} (enc:TypeId×Value→H) (base:Nat) (sp:Nat→Bool) (held:Bool) (fuel:Nat) (u v:Value) (l:List Value),DataW.trod enc P w base sp held (fuel+1) t (u::v::l)=none)
  (h1:∀ {H:Type} (enc:TypeId×Value→H) (base:Nat) (sp:Nat→Bool) (held:Bool) (fuel:Nat) (v:Value) (x:DataW H×List MemPlace),DataW.trod enc P w base sp held (fuel+1) t [v]=some x→∃ a,R (hp w) [v] a∧ok a):lQ P w t 1 R ok:=by
 refine ⟨hc,fun {H} enc base sp held fuel cs x h=>?_⟩
 cases fuel with
 | zero=>cases h
 | succ fuel =>
  match cs,h with
  | [],h=>rw [h0] at h;cases h
  | [v],h=>exact ⟨rfl,h1 enc base sp held fuel v x h⟩
  | u::v::l,h=>rw [h2] at h;cases h
theorem iA {k:IntKind} (hu:P.underlying t=some (.int k)) (hc:P.cellsOf t=1):lQ P w t 1 (aE (aI k)) (eH k):=by
 refine BL hu hc (fun enc base sp held fuel=>by unfold DataW.trod;rw [hu]) (fun enc base sp held fuel u v l=>by unfold DataW.trod;rw [hu];cases u <;> rfl) (fun enc base sp held fuel v x h=>?_);unfold DataW.trod at h;rw [hu] at h;cases v <;> simp at h
 rename_i k' n
 obtain ⟨⟨rfl,hw⟩,_⟩:=h;exact ⟨n,rfl,by simpa [Lit.wf,IntKind.has] using hw⟩
theorem jC (hu:P.underlying t=some .string) (hc:P.cellsOf t=1):lQ P w t 1 (aE bE) (fun s=>s.length≤maxLen):=by
 refine BL hu hc (fun enc base sp held fuel=>by unfold DataW.trod;rw [hu]) (fun enc base sp held fuel u v l=>by unfold DataW.trod;rw [hu];cases u <;> rfl) (fun enc base sp held fuel v x h=>?_);unfold DataW.trod at h;rw [hu] at h;cases v <;> simp at h
 rename_i s
 refine ⟨s.data.toList,?_,by show s.data.toList.length≤maxLen;rw [Array.length_toList];exact h.1⟩;show _=bE _;simp [bE,bs]
theorem xY {α:Type} {Q:Nat→α→Prop}:∀ (n:Nat),(∀ i,i < n→∃ x,Q i x)→∃ l:List α,l.length=n∧∀ i x,l[i]?=some x→Q i x
 | 0,_=>⟨[],rfl,fun i x h=>by simp at h⟩
 | n+1,h=>by
  obtain ⟨l,h1,h2⟩:=xY n (fun i hi=>h i (by omega));obtain ⟨x,hx⟩:=h n (by omega);refine ⟨l++[x],by simp [h1],fun i y hy=>?_⟩;by_cases hi:i < l.length
  ·rw [List.getElem?_append_left hi] at hy;exact h2 i y hy
  rw [List.getElem?_append_right (by omega)] at hy;have:i - l.length=0:=by
   by_cases c:i - l.length=0
   ·exact c
   rw [List.getElem?_eq_none (by simp;omega)] at hy;cases hy
  rw [this] at hy;simp at hy;subst hy;rw [show i=n by omega];exact hx
theorem pC {α β:Type} {f:α→Option β}:∀ {l:List α} {ys:List β},l.mapM f=some ys→∀ x∈l,∃ y,f x=some y
 | [],_,_,x,hx=>by cases hx
 | a::l,ys,h,x,hx=>by
  simp only [List.mapM_cons,Option.pure_def,Option.bind_eq_bind,Option.bind_eq_some_iff] at h;obtain ⟨y,h1,zs,h2,_⟩:=h;rcases List.mem_cons.1 hx with rfl | hx
  ·exact ⟨y,h1⟩
  exact pC h2 x hx
theorem vB {base:Nat} {a:Addr} {n:Nat} {cs:List Value} (h:w.cells? base a n=some cs) (hn:0 < n):aY (hp w) a cs∧cs.length=n:=by
 unfold World.cells? at h
 split at h
 ·have hlen:cs.length=n:=by
   have:∀ (l:List Nat) (ys:List Value),l.mapM (fun i=>w.cell? (a.add i))=some ys→ys.length=l.length:=by
    intro l
    induction l with
    | nil=>intro ys h;simp at h;subst h;rfl
    | cons x l ih =>
     intro ys h;simp only [List.mapM_cons,Option.pure_def,Option.bind_eq_bind,Option.bind_eq_some_iff] at h;obtain ⟨y,_,zs,h2,h3⟩:=h;cases h3;simp [ih _ h2]
   rw [this _ _ h];simp
  have hat:∀ (l:List Nat) (ys:List Value),l.mapM (fun i=>w.cell? (a.add i))=some ys→∀ (j:Nat) (v:Value),ys[j]?=some v→∃ i:Nat,l[j]?=some i∧w.cell? (a.add i)=some v:=by
   intro l
   induction l with
   | nil=>intro ys h j v hj;simp at h;subst h;simp at hj
   | cons x l ih =>
    intro ys h j v hj;simp only [List.mapM_cons,Option.pure_def,Option.bind_eq_bind,Option.bind_eq_some_iff] at h;obtain ⟨y,h1,zs,h2,h3⟩:=h;cases h3
    cases j with
    | zero=>simp at hj;subst hj;exact ⟨x,rfl,h1⟩
    | succ j=>simp at hj;exact ih _ h2 j v hj
  have hij:∀ j i:Nat,(List.range n)[j]?=some i→i=j:=by
   intro j i hi;have hlt:j < n:=by
    have:=(List.getElem?_eq_some_iff.1 hi).1;simpa using this
   rw [List.getElem?_range hlt] at hi;simpa using hi.symm
  have hs:a.spot=none:=by
   obtain ⟨i,hi,hv⟩:=hat _ _ h 0 (cs[0]'(by omega)) (List.getElem?_eq_getElem _);obtain rfl:=hij _ _ hi;have ha:a.add 0=a:=by simp [Addr.add]
   rw [ha] at hv;unfold World.cell? at hv
   split at hv
   ·cases hs:a.spot with
    | none=>rfl
    | some s=>simp [hs] at hv
   cases hv
  refine ⟨⟨hs,fun j v hj=>?_⟩,hlen⟩;obtain ⟨i,hi,hv⟩:=hat _ _ h j v hj;obtain rfl:=hij _ _ hi;rw [dR hs] at hv;unfold World.cell? at hv;simp only at hv
  split at hv
  ·rename_i c ty fz hh
   simp at hv;exact ⟨c,ty,fz,hh,hv⟩
  cases hv
 cases h
theorem gC {α:Type} {R:Hp→List Value→α→Prop} {ok:α→Prop} {n:Nat} (hu:P.underlying t=some (.slice e)) (hc:P.cellsOf t=1) (hn:0 < n) (he:lQ P w e n R ok):lQ P w t 1 (kC R n) (wV ok):=by
 refine ⟨hc,fun {H} enc base sp held fuel cs x h=>?_⟩
 cases fuel with
 | zero=>cases h
 | succ fuel =>
  unfold DataW.trod at h;rw [hu] at h
  split at h <;> try (simp_all;done)
  ·exact ⟨rfl,[],⟨none,0,rfl,Sl.nil _ _ _ _ _ (by decide)⟩,fun x hx=>by cases hx⟩
  rename_i e' a len cap he'
  cases he'
  split at h
  ·rename_i hb
   rw [Option.bind_eq_some_iff] at h;obtain ⟨elems,h1,_⟩:=h;rw [he.1] at h1;have hat:∀ i,i < len→∃ z,(∃ cs,w.cells? base (a.add (i*n)) n=some cs∧R (hp w) cs z)∧ok z:=by
    intro i hi;obtain ⟨y,hy⟩:=pC h1 i (List.mem_range.2 hi);rw [Option.bind_eq_some_iff] at hy;obtain ⟨cs,hcs,hy⟩:=hy;obtain ⟨_,z,hz1,hz2⟩:=he.2 enc base sp held fuel cs y hy;exact ⟨z,⟨cs,hcs,hz1⟩,hz2⟩
   obtain ⟨l,hl,hq⟩:=xY len hat;subst hl;refine ⟨rfl,l,⟨some a,cap,rfl,⟨hb.2.1,Nat.le_trans hb.2.2 (by decide)⟩,fun i z hz=>?_⟩,fun z hz=>?_⟩
   ·obtain ⟨⟨cs,h2,h3⟩,_⟩:=hq i z hz;obtain ⟨h4,h5⟩:=vB h2 hn;have hsp:a.spot=none:=by
     obtain ⟨_,⟨cs0,h6,_⟩,_⟩:=hat 0 (by have:=aX hz;omega);have:=(vB h6 hn).1.1;simpa [Addr.add] using this
    exact ⟨a,cs,rfl,hsp,h5,h4,h3⟩
   obtain ⟨i,hi⟩:=List.mem_iff_getElem?.1 hz;exact (hq i z hi).2
  cases h
def SS (cs:List Value):List Nat→Nat→List (List Value)
 | [],_=>[]
 | n::ns,o=>(cs.drop o).take n::SS cs ns (o+n)
theorem lS (cs:List Value):∀ (ns:List Nat) (o:Nat),cs.length=o+ns.sum→cs.drop o=(SS cs ns o).flatten
 | [],o,h=>by simp at h;simp [SS,List.drop_eq_nil_of_le (Nat.le_of_eq h)]
 | n::ns,o,h=>by
  simp only [SS,List.flatten_cons];rw [← lS cs ns (o+n) (by simp at h;omega),← List.drop_drop,List.take_append_drop]
theorem fI {H:Type} {enc:TypeId×Value→H} {base:Nat} {sp:Nat→Bool} {held:Bool} {fuel:Nat} {cs:List Value} {x:DataW H×List MemPlace} {fs:Array Field} (hu:P.underlying t=some (.struct fs)) (h:DataW.trod enc P w base sp held fuel t cs=some x) :
  cs.length=P.cellsOf t∧∃ fuel',∀ f∈fs.toList,∃ y,DataW.trod enc P w base sp held fuel' f.type ((cs.drop f.offset).take (P.cellsOf f.type))=some y:=by
 cases fuel with
 | zero=>cases h
 | succ fuel =>
  unfold DataW.trod at h;rw [hu] at h;simp only at h
  split at h
  ·rename_i hl
   refine ⟨hl,fuel,fun f hf=>?_⟩;rw [Option.map_eq_some_iff] at h;obtain ⟨ys,h1,_⟩:=h;exact pC h1 f hf
  cases h
theorem BM {α:Type} {R:Hp→List Value→α→Prop} {ok:α→Prop} (hr:lQ P w t 1 R ok) {H:Type} {enc:TypeId×Value→H} {base b0:Nat} {sp:Nat→Bool} {held:Bool} {v:Value} {d:DataW H} {ps:List MemPlace} (hv:Value.okWide P w .any b0 t v) (hns:∀ cs,v≠.agg cs) (h:DataW.Trod enc P w base sp held t v d ps):∃ a,R (hp w) [v] a∧ok a:=by
 obtain ⟨fuel,h⟩:=h;obtain ⟨_,a,h1,h2⟩:=hr.2 enc base sp held fuel _ _ h;have:v.cells.toList=[v]:=by
  cases v <;> first | rfl | exact absurd rfl (hns _)
 rw [this] at h1;exact ⟨a,h1,h2⟩
theorem rV {α:Type} {n:Nat} {R:Hp→List Value→α→Prop} {ok:α→Prop} (hr:lQ P w t n R ok) {H:Type} {enc:TypeId×Value→H} {base b0:Nat} {sp:Nat→Bool} {held:Bool} {v:Value} {d:DataW H} {ps:List MemPlace} {fs:Array Field} (hu:P.underlying t=some (.struct fs)) (hv:Value.okWide P w .any b0 t v) (h:DataW.Trod enc P w base sp held t v d ps):∃ cs a,v=.agg cs.toArray∧R (hp w) cs a∧ok a:=by
 unfold Value.okWide at hv;rw [hu] at hv;obtain ⟨cs,rfl,_,_⟩:=hv;obtain ⟨fuel,h⟩:=h;obtain ⟨_,a,h1,h2⟩:=hr.2 enc base sp held fuel _ _ h;exact ⟨cs.toList,a,by simp,h1,h2⟩
theorem nsl (hu:P.underlying t=some (.slice e)) {b0:Nat} {v:Value} (hv:Value.okWide P w .any b0 t v):∀ cs,v≠.agg cs:=by
 rintro cs rfl;unfold Value.okWide at hv;rw [hu] at hv;simp only [Cell.okWide,hu,Cell.ok] at hv
end
section
variable {H:Type} {enc:TypeId×Value→H} {P:Program}
theorem lF (hl:laidOutB P=true) {W W':World} {sp:Nat→Bool} (hb:Below W.heap.size W W'):∀ {ts:List TypeId} {vs:List Value} {ds:List (DataW H)} {ps:List MemPlace},(∀ t∈ts,P.readableRec t=true∧t < P.types.size)→DataW.TrodAll enc P W 0 (fun _=>true) true ts vs ds ps→(∀ x∈ps,x.block < W.heap.size)→(∀ x∈ps,sp x.block=true)→DataW.TrodAll enc P W' 0 sp true ts vs ds ps
 | [],_,_,_,_,h,_,_=>by
  obtain ⟨rfl,rfl,rfl⟩:=trodAll_nil h;exact rfl
 | t::ts,_,_,_,hr,h,hlt,hs=>by
  obtain ⟨v,vs,d,ds,p,q,rfl,rfl,rfl,h1,h2⟩:=trodAll_cons h;have ht:=hr t List.mem_cons_self
  exact ⟨p,q,WideElems.Trod_stays hl ht.1 ht.2 h1 (fun x hx=>hb.same (hlt x (List.mem_append_left _ hx))) (fun x hx=>hs x (List.mem_append_left _ hx)),
   lF hl hb (fun u hu=>hr u (List.mem_cons_of_mem _ hu)) h2 (fun x hx=>hlt x (List.mem_append_right _ hx)) (fun x hx=>hs x (List.mem_append_right _ hx)),rfl⟩
theorem zL {M:Prop} {w w':World} (h:gZ M w w'):Below w.heap.size w w':=⟨h.os,h.tape,h.output,h.size,fun b hb=>h.keep b hb⟩
theorem GN {M:Prop} {w w':World} (h:gZ M w w') (may:MemPlace→Prop):w.keptBut w' may:=by
 refine ⟨h.os,h.output,fun i hi=>?_⟩;rw [h.keep i hi]
 cases w.heap[i]? with
 | none=>trivial
 | some o=>cases o <;> first | rfl | exact ⟨rfl,rfl,rfl,fun _ _=>rfl⟩ | exact .inr ⟨rfl,rfl⟩
theorem BN {f:Func} {s:ChangeSpec} {apart fresh handsOn again:Bool} {W W':World} {args:Array Value} {ds gs:List (DataW H)} {before:List MemPlace} {tb:TypeId}
  (hW:DataW.Whole enc P f.params.toList s.vars apart W args.toList ds gs before) (hv:s.vars=[]) (hl:laidOutB P=true) (hr:∀ t∈f.params.toList,P.readableRec t=true∧t < P.types.size)
  (hs:s.fn H ds={ results:=[.lit (.bool true)],args:=ds }) (hrt:f.resultTypes = #[tb]) (hb:P.underlying tb=some .bool) {M:Prop} (hE:gZ M W W'):s.post enc P f apart fresh handsOn again W args (.bool true) W':=by
 have hB:=zL hE;have hlt:∀ x∈before,x.block < W.heap.size:=fun x hx=>by simpa using hW.lt x hx
 have hold:∀ p∈before,(fun b=>decide (b < W.heap.size)) p.block=true:=fun p hp=>by simpa using hlt p hp
 have hW0:=hW;obtain ⟨p,q,hA,hV,rfl,hz,hn⟩:=hW;rw [hv] at hV;obtain ⟨rfl,rfl⟩:=trodVars_none hV;rw [List.append_nil] at *;have hfn:s.fn H (ds++[])={ results:=[.lit (.bool true)],args:=ds }:=by rw [List.append_nil];exact hs
 have hargs:∀ sp:Nat→Bool,(∀ x∈p,sp x.block=true)→DataW.TrodAll enc P W' 0 sp true f.params.toList args.toList ds p:=fun sp h=>lF hl hB hr hA hlt h;have hres:∀ (b:Nat) (sp:Nat→Bool) (hd:Bool),DataW.TrodAll enc P W' b sp hd f.resultTypes.toList ((Value.bool true).resultList f.resultTypes.size) [.lit (.bool true)] []:=fun b sp hd=>by
  rw [hrt];exact trodAll_mk1 (shut_bool hb _)
 have hvars:∀ sp:Nat→Bool,DataW.TrodVars enc P W' sp s.vars [] []:=fun sp=>by rw [hv];rfl
 refine ⟨ds,[],p,[],p,[],by simpa using hW0,by rw [hfn];exact hres _ _ _,by rw [hfn];exact hargs _ hold,by rw [hfn];exact hvars _,World.keptBut_mono (fun x hx=>⟨hx,by simpa using hx⟩) (GN hE _),fun _=>?_⟩;refine ⟨ok_one hrt rfl (okWide_bool_mk hb _),_,_,([]++p)++[],⟨[]++p,[],trodAll_append (hargs _ (fun _ _=>rfl)) (hres _ _ _),hvars _,rfl,?_,?_⟩,?_⟩
 ·intro b off hp;have hp':MemPlace.cell b off∈p:=by simpa using hp
  have hb':b < W.heap.size:=hlt _ hp';have:W'.frozen? ⟨b,off,none⟩=W.frozen? ⟨b,off,none⟩:=by
   unfold World.frozen?;rw [hE.keep b hb']
  rw [this];exact hz b off hp'
 ·intro ha;have:=hn ha;simpa using this
 intro x hx _;simpa using hx
end
section
variable {H:Type} {enc:TypeId×Value→H} {P:Program} {w:World} {t e:TypeId} {base:Nat} {sp:Nat→Bool} {held:Bool} {fuel:Nat} {cs:List Value}
theorem vC {ms:Array (String×TypeId)} {x:DataW H×List MemPlace} (hu:P.underlying t=some (.interface ms)) (h:DataW.trod enc P w base sp held fuel t cs=some x):∃ v,cs=[v]∧OE v:=by
 cases fuel with
 | zero=>cases h
 | succ fuel =>
  unfold DataW.trod at h;rw [hu] at h
  match cs,h with
  | [],h=>cases h
  | [.nilIface],_=>exact ⟨_,rfl,.inl rfl⟩
  | [.iface u v],_=>exact ⟨_,rfl,.inr ⟨_,_,rfl⟩⟩
  | u::v::l,h=>cases u <;> simp at h
  | [.bool _],h | [.int _ _],h | [.float _ _],h | [.complex _ _ _],h | [.string _],h | [.pointer _],h | [.slice _ _ _],h | [.agg _],h | [.tuple _],h | [.map _],h | [.chan _],h | [.func _ _ _],h | [.nilFunc],h=>simp at h
theorem rW {n:String} {g:Nat} {cs:Array Value} (hg:P.globalNamed n=some g) (hv:w.var? P n=some cs):∃ t z,hp w g=some (.cells cs t z):=by
 unfold World.var? at hv;rw [hg,Option.bind_some] at hv
 split at hv
 ·rename_i c t z hh
  cases hv;exact ⟨t,z,hh⟩
 cases hv
theorem xZ {n:String} {g:Nat} {cs:Array Value} {v:Value} (hg:P.globalNamed n=some g) (hv:w.var? P n=some cs) (hc:cs.toList=[v]):aY (hp w) ⟨g,0,none⟩ [v]:=by
 obtain ⟨t,z,h⟩:=rW hg hv;refine ⟨rfl,fun j u hu=>⟨cs,t,z,h,?_⟩⟩;rw [← hc] at hu;simpa using hu
theorem vD {α β:Type} {f:α→Option β}:∀ {l:List α} {ys:List β},l.mapM f=some ys→∀ i:Nat,(l[i]?).bind f=ys[i]?
 | [],ys,h,i=>by simp at h;subst h;simp
 | a::l,ys,h,i=>by
  simp only [List.mapM_cons,Option.pure_def,Option.bind_eq_bind,Option.bind_eq_some_iff] at h;obtain ⟨y,h1,zs,h2,h3⟩:=h;cases h3
  cases i with
  | zero=>simpa using h1
  | succ i=>simpa using vD h2 i
theorem KF {k:IntKind} {n:Nat} {zs:List Int} {ps:List MemPlace} (hu:P.underlying t=some (.array n e)) (he:P.underlying e=some (.int k)) (hc:P.cellsOf e=1) (ht:P.cellsOf t=n) (h:DataW.trod enc P w base sp held fuel t cs=some (.agg (zs.map fun z=>.lit (.int k z)),ps)):cs=zs.map fun z=>Value.int k z:=by
 cases fuel with
 | zero=>cases h
 | succ fuel =>
  unfold DataW.trod at h;rw [hu] at h;simp only at h
  split at h
  ·rename_i hl
   rw [Option.map_eq_some_iff] at h;obtain ⟨xs,h1,h2⟩:=h;simp only [Prod.mk.injEq,DataW.agg.injEq] at h2;have hx:=h2.1;rw [hc] at h1;apply List.ext_getElem?;intro i;have hi:=vD h1 i;by_cases hin:i < n
   ·rw [List.getElem?_range hin,Option.bind_some] at hi;have hlt:i < cs.length:=by omega
    have e1:(cs.drop (i*1)).take 1=[cs[i]]:=by rw [Nat.mul_one,List.drop_eq_getElem_cons hlt,List.take_succ_cons,List.take_zero]
    rw [e1] at hi;have hxi:xs[i]?≠none:=by
     intro hn;obtain ⟨y,hy⟩:=pC h1 i (List.mem_range.2 hin);rw [e1,hi,hn] at hy;cases hy
    cases hxs:xs[i]? with
    | none=>exact absurd hxs hxi
    | some y =>
     rw [hxs] at hi;have hz:(zs.map fun z=>(DataW.lit (.int k z):DataW H))[i]?=some y.1:=by rw [← hx];simp [hxs]
     cases fuel with
     | zero=>cases hi
     | succ fuel =>
      unfold DataW.trod at hi;rw [he] at hi;rw [List.getElem?_eq_getElem hlt];cases hv:cs[i] <;> rw [hv] at hi <;> simp at hi
      rename_i k' m
      obtain ⟨⟨rfl,_⟩,rfl⟩:=hi;simp only [List.getElem?_map,Option.map_eq_some_iff] at hz ⊢;obtain ⟨z,hz1,hz2⟩:=hz;cases hz2;simp [hz1]
   have:xs[i]?=none:=by
    rw [← hi,List.getElem?_eq_none (by simp;omega)];rfl
   have hz:(zs.map fun z=>(DataW.lit (.int k z):DataW H))[i]?=none:=by rw [← hx];simp [this]
   rw [List.getElem?_eq_none (show cs.length≤i by omega)];rw [List.getElem?_eq_none_iff,List.length_map] at hz
   symm
   rw [List.getElem?_eq_none_iff,List.length_map];exact hz
  cases h
theorem OF {gS gR gT:Nat} {nS nR nT:String} {cS cR cT:Array Value} {vS vR:Value} (h1:P.globalNamed nS=some gS) (h2:w.var? P nS=some cS) (h3:cS.toList=[vS]) (h4:OE vS) (h5:P.globalNamed nR=some gR) (h6:w.var? P nR=some cR) (h7:cR.toList=[vR]) (h8:OE vR)
  (h9:P.globalNamed nT=some gT) (h0:w.var? P nT=some cT) (hA:cT.toList=Lib.pow10Tab.map fun z=>Value.int .u64 z):Gl False gS gR gT (hp w):=by
 refine ⟨not_false,⟨vS,xZ h1 h2 h3,h4⟩,⟨vR,xZ h5 h6 h7,h8⟩,?_⟩;obtain ⟨t,z,h⟩:=rW h9 h0;have:cT=(Lib.pow10Tab.map fun z=>Value.int .u64 z).toArray:=by rw [← hA]
 exact ⟨t,z,by rw [← this];exact h⟩
end
end Pk
namespace Pk
open Go Go.Proofs
def OH (P:Program) (f:Nat):Prop :=
 (∀ p cap fv w,Calls P f #[.slice p 0 cap,fv] w fun e w'=>e=.returned (.tuple #[])∧w'=w) ∧
 ∀ (α:Type) (_:Inhabited α) (enc:α→Value) (_:OneCell enc) (cf:α→α→Int) (_:Sort.SWO (ltOf cf)) (g:Nat) (cb:Array Value) (blk off cap:Nat) (d:Array α) (w:World),
  (∀ args w,(callFunc g args).run P w=.ok (.enter g args) w)→CmpLays1 P g cb enc cf blk off d.size w→Sort.Holds enc w blk off d→blk < w.heap.size→d.size < 4611686018427387904→(∀ x y,(ltOf cf) x y=false→(ltOf cf) y x=false→x=y) →
  Calls P f #[.slice (some ⟨blk,off,none⟩) d.size cap,.func (.func g) #[] cb] w fun e w'=>e=.returned (.tuple #[])∧∃ n os,w'=sortWorld enc w blk off n (d.toList.mergeSort fun x y=>!(ltOf cf) y x).toArray os
theorem BO {M:Prop} {w w':World} (q:M) (h:gZ M w w'):∃ n os,w'=Sort.grow (w.drewN n) os:=by
 refine ⟨w'.drawn - w.drawn,w'.heap.extract w.heap.size,?_⟩;have hd:=h.drawn q;have hh:w'.heap=w.heap++w'.heap.extract w.heap.size:=by
  have hs:=h.size;refine Array.ext_getElem? fun i=>?_;by_cases hi:i < w.heap.size
  ·rw [Array.getElem?_append_left hi];exact h.keep i hi
  rw [Array.getElem?_append_right (by omega),Array.getElem?_extract];by_cases h2:i < w'.heap.size
  ·rw [if_pos (by omega)];congr 1;omega
  rw [if_neg (by omega)];exact Array.getElem?_eq_none (by omega)
 obtain ⟨heap,tape,drawn,os,out⟩:=w';obtain ⟨heap0,tape0,drawn0,os0,out0⟩:=w;have h1:=h.os;have h2:=h.tape;have h3:=h.output;dsimp only at h1 h2 h3 hd hh;subst h1;subst h2;subst h3;simp only [Sort.grow,World.drewN,World.mk.injEq,and_true,true_and];exact ⟨hh,by omega⟩
theorem kE {w:World} {g b:Nat} {f:Array Value→Array Value} (h:b≠g):(Sort.mapBlock w g f).heap[b]?=w.heap[b]?:=by
 show (w.heap.modify g _)[b]?=_;rw [Array.getElem?_modify,if_neg (Ne.symm h)]
theorem GO {α:Type} [Inhabited α] {enc:α→Value} {w:World} {g m:Nat} {d:Array α} {os:Array Obj} {cur:Array Value} {e:TypeId} {fz:Nat×Nat} (hg:w.heap[g]?=some (.cells cur e fz)) (hd:d.size≤cur.size) :
  lY w (sortWorld enc w g 0 m d os) (some g)∧∃ cur',(sortWorld enc w g 0 m d os).heap[g]?=some (.cells cur' e fz)∧cur'.size=cur.size∧cur'.toList.take d.size=d.toList.map enc:=by
 have hlt:g < w.heap.size:=(Array.getElem?_eq_some_iff.1 hg).1;have hsz:(Sort.putRow enc (Sort.ahead w m) g 0 d).heap.size=w.heap.size:=by simp [Sort.putRow,Sort.mapBlock,Sort.ahead]
 refine ⟨⟨⟨rfl,rfl,rfl,?_,fun b hb hne=>?_⟩,?_⟩,Sort.putCells enc 0 d cur,?_,?_,?_⟩
 ·show _≤((Sort.putRow enc (Sort.ahead w m) g 0 d).heap++os).size;rw [Array.size_append,hsz];omega
 ·show ((Sort.putRow enc (Sort.ahead w m) g 0 d).heap++os)[b]?=_;rw [Array.getElem?_append_left (by rw [hsz];exact hb)];exact kE (w:=Sort.ahead w m) (fun e=>hne (by rw [e]))
 ·show w.drawn≤w.drawn+m;omega
 ·show ((Sort.putRow enc (Sort.ahead w m) g 0 d).heap++os)[g]?=_;rw [Array.getElem?_append_left (by rw [hsz];exact hlt)];show ((Sort.ahead w m).heap.modify g _)[g]?=_;rw [Array.getElem?_modify,if_pos rfl];show (w.heap[g]?).map _=_;rw [hg];rfl
 ·simp [Sort.putCells]
 apply List.ext_getElem?;intro i;rw [List.getElem?_take,List.getElem?_map];by_cases hi:i < d.size
 ·rw [if_pos hi];simp only [Sort.putCells,Array.getElem?_toList,Array.getElem?_mapIdx];have h1:cur[i]?=some cur[i]:=Array.getElem?_eq_getElem (by omega);have h2:d[i]?=some d[i]:=Array.getElem?_eq_getElem hi;rw [h1,h2];simp [hi]
 rw [if_neg hi];have:d[i]?=none:=Array.getElem?_eq_none (by omega);simp [this]
section
variable {P:Program} {r:Option Nat} {n:aU} {p:List PanicEntry→aU} {ops:Array Oper} {rest:List Oper} {d:Nat} {ty:TypeId} {pos:String} {af:Array Edge} {x:Fr} {Hs:List Hp} {σ:aS} {L:bU}
theorem pU.swo {α:Type} {f:α→α→Option Int} {l:List α} (h:pU f l):Sort.SWO (ltOf fun (a b:{x // x∈l})=>(f a.1 b.1).getD 0)∧(∀ a b:{x // x∈l},ltOf (fun (a b:{x // x∈l})=>(f a.1 b.1).getD 0) a b=oB f a.1 b.1):=by
 have key:∀ a b:{x // x∈l},ltOf (fun (a b:{x // x∈l})=>(f a.1 b.1).getD 0) a b=oB f a.1 b.1:=fun a b=>by
  obtain ⟨c,hc⟩:=h.some_ a.1 a.2 b.1 b.2;simp [ltOf,oB,hc]
 refine ⟨⟨fun a=>by rw [key];exact h.irr _ a.2,fun a b c h1 h2=>by rw [key] at *;exact h.tr _ a.2 _ b.2 _ c.2 h1 h2,fun a b c h1 h2=>?_⟩,key⟩;rw [key] at *
 cases h3:oB f a.1 c.1 with
 | false=>rfl
 | true =>
  exfalso
  cases h4:oB f b.1 a.1 with
  | true =>
   have:=h.tr _ b.2 _ a.2 _ c.2 h4 h3;rw [this] at h2;cases h2
  | false =>
   have e:=h.tot _ a.2 _ b.2 h1 h4;rw [e] at h3;rw [h3] at h2;cases h2
theorem tT {α:Type} (f:α→α→Option Int) (l:List α) (lt:{x // x∈l}→{x // x∈l}→Bool) (h:∀ a b,lt a b=oB f a.1 b.1):(l.attach.mergeSort fun a b=>!lt b a).map (·.1)=l.mergeSort fun x y=>!oB f y x:=by
 rw [List.map_mergeSort (s:=fun x y=>!oB f y x) (fun a _ b _=>by rw [h b a])];congr 1;exact List.attach_map_subtype_val l
theorem BP {α:Type} [Inhabited α] {enc:α→Value} {M:Prop} {w0 w:World} {H0:Hp} {g m:Nat} {d:Array α} {os:Array Obj} (hS:St M w0 H0 Hs σ w) {tg:Nat} {y:aJ} (hy:cD σ tg=some y) (hg:y.foot=some g):(eL w0 H0 σ w).le (hp (sortWorld enc w g 0 m d os)):=by
 intro b o hb;have hw:=hS.vis_le b o hb;have hne:b≠g:=by
  rintro rfl;unfold eL at hb;rw [if_pos ⟨tg,y,dU hy,hg⟩] at hb;cases hb
 have hlt:b < w.heap.size:=(Array.getElem?_eq_some_iff.1 hw).1;show ((Sort.putRow enc (Sort.ahead w m) g 0 d).heap++os)[b]?=_;rw [Array.getElem?_append_left (by simp [Sort.putRow,Sort.mapBlock,Sort.ahead];exact hlt)];exact (kE (w:=Sort.ahead w m) hne).trans hw
theorem KG {α:Type} {H:Hp} {g:FuncId} {cb:List Value} {V V':Hp→Value→α→Prop} {f:α→α→Option Int} (hF:eC True P H (.func (.func g) #[] cb.toArray) (ML V V' (fun c=>.int .i64 c) f)) :
  (∀ args w,(callFunc g args).run P w=.ok (.enter g args) w)∧∀ w,H.le (hp w)→∀ u v a b c,V H u a→V' H v b→f a b=some c→Calls P g (#[u,v]++cb.toArray) w fun e w'=>e=.returned (.int .i64 c)∧∃ q os',w'=Sort.grow (w.drewN q) os':=by
 obtain ⟨g',first,cap,e,hc,hr⟩:=hF;simp only [Value.func.injEq,Fn.func.injEq] at e;obtain ⟨rfl,h1,h2⟩:=e;have h1':first=[]:=by simpa using h1.symm
 have h2':cb=cap:=by simpa using h2
 subst h1';subst h2';refine ⟨hc,fun w hw u v a b c hu hv hfc=>?_⟩;have:=hr w H [u,v] (.int .i64 c) (Hp.le.refl _) hw ⟨u,v,a,b,c,rfl,hu,hv,hfc,rfl⟩;have e2:([]++[u,v]++cb).toArray = #[u,v]++cb.toArray:=by simp
 rw [e2] at this;refine this.mono fun e w' he=>?_
 cases e with
 | returned z=>exact ⟨by rw [he.1],BO trivial he.2⟩
 | panicked _=>exact he.elim
 | outgrown=>exact he.elim
theorem UB {α:Type} (tg:Nat) {enc:α→List Value} (enc1:α→Value) (he:∀ x,enc x=[enc1 x]) (h1:∀ x,(enc1 x).oneCell'=true) {l l':List α} {f:α→α→Option Int} {fid:Nat} {z y s:Operand} {ats:Array TypeId} {ad:Option Addr} {cap nn:Nat} {el:TypeId} {g:FuncId} {cb:List Value} {V V':Hp→Value→α→Prop}
  (hC:OH P fid) (hcall:∀ args w,(callFunc fid args).run P w=.ok (.enter fid args) w) (hd:Nat.blt d x.k=true) (hz:ev L z=some (.func (.func fid) #[] #[])) (hs:ev L s=some (.slice ad nn cap)) (hσ:cD σ tg=some (.list ad cap el 1 enc l)) (hn:nn=l.length) (hy:ev L y=some (.func (.func g) #[] cb.toArray))
  (hF:∀ H,KC Hs H→eC True P H (.func (.func g) #[] cb.toArray) (ML V V' (fun c=>.int .i64 c) f)) (hV:∀ H u,V H (enc1 u) u) (hV':∀ H u,V' H (enc1 u) u) (hso:oC f l=some l')
  (h:OG P r ops n p x Hs (dE σ tg (.list ad cap el 1 enc l')) ((d,.tuple #[])::L) rest):OG P r ops n p x Hs σ L (⟨some d,.call ⟨.value z,#[s,y],ats⟩,ty,pos,af,none⟩::rest):=fun a w hS hA=>by
 subst hn;obtain ⟨hok,hm⟩:=pV hso;obtain ⟨eg,hcmp⟩:=KG (hF (eL x.w0 x.H0 σ w) fun i K hi=>hS.at i hi);have hrow:=hS.get hσ;have hxs:mX L [s,y]=some [.slice ad l.length cap,.func (.func g) #[] cb.toArray]:=by simp [mX,hs,hy]
 have fin:∀ w',St x.M x.w0 x.H0 Hs (dE σ tg (.list ad cap el 1 enc l')) w'→O P r ops n p rest (a.put (some d) (.tuple #[])) w':=fun w' hS'=>h _ w' hS' (hA.put hd _);have enterIt:∀ R:Ending→World→Prop,Calls P fid #[.slice ad l.length cap,.func (.func g) #[] cb.toArray] w R→(∀ e w',R e w'→e=.returned (.tuple #[])∧St x.M x.w0 x.H0 Hs (dE σ tg (.list ad cap el 1 enc l')) w')→O P r ops n p (⟨some d,.call ⟨.value z,#[s,y],ats⟩,ty,pos,af,none⟩::rest) a w:=fun R hR hk=>by
  refine iL rfl (fun _ h=>by cases h) (gA (xs:=[s,y]) (first:=#[]) (cap:=#[]) hA hz hxs hcall) (by simpa using hR) ?_ ?_ ?_
  ·intro v w' hv;obtain ⟨e,hS'⟩:=hk _ _ hv;cases e;exact fin w' hS'
  ·intro ch w' hv;cases (hk _ _ hv).1
  intro w' hv;cases (hk _ _ hv).1
 by_cases hl:l=[]
 ·subst hl;have hl':l'=[]:=by rw [← hm];simp
  subst hl';refine enterIt _ (hC.1 ad cap _ w) fun e w' hw=>⟨hw.1,?_⟩;rw [hw.2];exact hS.as tg hσ rfl
 rcases hrow.2 with ⟨hn0,_⟩ | ⟨b,cap',cur,hv,_,hg,hnc,hcm,hcs,ht⟩
 ·simp only [Value.slice.injEq] at hn0;exact absurd (List.eq_nil_of_length_eq_zero hn0.2.1) hl
 simp only [Value.slice.injEq] at hv;obtain ⟨rfl,_,rfl⟩:=hv;rw [Nat.mul_one] at hcs ht;have hx0:∃ u,u∈l:=List.exists_mem_of_ne_nil l hl
 haveI:Inhabited {u // u∈l}:=⟨⟨hx0.choose,hx0.choose_spec⟩⟩
 obtain ⟨hO,hlt⟩:=hok.swo;have hflat:∀ q:List α,q.flatMap enc=q.map enc1:=fun q=>by
  induction q with
  | nil=>rfl
  | cons a q ih=>simp [List.flatMap_cons,he,ih]
 have hsz:l.attach.toArray.size=l.length:=by simp
 have hHolds:Sort.Holds (fun u:{u // u∈l}=>enc1 u.1) w b 0 l.attach.toArray:=fun j hj=>by
  rw [hsz] at hj;have hcj:cur[j]?=some (enc1 l[j]):=by
   have:(cur.toList.take l.length)[j]?=(l.map enc1)[j]?:=by rw [ht,hflat]
   rw [List.getElem?_take,if_pos hj,Array.getElem?_toList,List.getElem?_map,List.getElem?_eq_getElem hj] at this;exact this
  have hgj:l.attach.toArray[j]!.1=l[j]:=by
   rw [getElem!_pos _ j (by rw [hsz];exact hj)];simp
  refine ⟨?_,?_⟩
  ·unfold World.cell?;rw [hg];simp only [Option.isSome_none,Bool.false_eq_true,if_false,Nat.zero_add];rw [hcj,hgj]
  unfold World.frozen?;rw [hg];simp
 have hcmp':CmpLays1 P g cb.toArray (fun u:{u // u∈l}=>enc1 u.1) (fun a b=>(f a.1 b.1).getD 0) b 0 l.attach.toArray.size w:=fun m os dk _ u v=>by
  obtain ⟨c,hc⟩:=hok.some_ u.1 u.2 v.1 v.2;have:=hcmp (sortWorld (fun u:{u // u∈l}=>enc1 u.1) w b 0 m dk os) (BP hS hσ rfl) (enc1 u.1) (enc1 v.1) u.1 v.1 c (hV _ _) (hV' _ _) hc;have e3:(f u.1 v.1).getD 0=c:=by rw [hc];rfl
  show Calls P g _ _ fun e w'=>e=.returned (.int .i64 ((f u.1 v.1).getD 0))∧_;rw [e3];exact this
 have hb:b < w.heap.size:=(Array.getElem?_eq_some_iff.1 hg).1;have hbig:l.attach.toArray.size < 4611686018427387904:=by
  rw [hsz];exact Nat.lt_of_le_of_lt hok.small (by decide)
 have hT:∀ u v:{u // u∈l},ltOf (fun (a b:{u // u∈l})=>(f a.1 b.1).getD 0) u v=false→ltOf (fun (a b:{u // u∈l})=>(f a.1 b.1).getD 0) v u=false→u=v:=fun u v h1 h2=>by
  rw [hlt] at h1 h2;exact Subtype.ext (hok.tot _ u.2 _ v.2 h1 h2)
 have hcon:=hC.2 {u // u∈l} inferInstance (fun u=>enc1 u.1) (fun u=>h1 u.1) (fun (a b:{u // u∈l})=>(f a.1 b.1).getD 0) hO g cb.toArray b 0 cap l.attach.toArray w eg hcmp' hHolds hb hbig hT;rw [hsz] at hcon;have hS2:(l.attach.toArray.toList.mergeSort fun a b=>!ltOf (fun (a b:{u // u∈l})=>(f a.1 b.1).getD 0) b a).map (fun u=>enc1 u.1)=l'.map enc1:=by
  have:=tT f l _ hlt;rw [hm] at this;rw [← this,List.map_map];rfl
 have hS1:(l.attach.toArray.toList.mergeSort fun a b=>!ltOf (fun (a b:{u // u∈l})=>(f a.1 b.1).getD 0) b a).length=l.length:=by
  rw [List.length_mergeSort];exact List.length_attach
 generalize (l.attach.toArray.toList.mergeSort fun a b=>!ltOf (fun (a b:{u // u∈l})=>(f a.1 b.1).getD 0) b a)=S at hcon hS1 hS2;refine enterIt _ hcon fun e w' hw=>⟨hw.1,?_⟩;obtain ⟨_,m,os,rfl⟩:=hw;have hms:S.toArray.size=l.length:=by rw [List.size_toArray];exact hS1
 obtain ⟨hG,cur',hg',hcs',ht'⟩:=GO (enc:=fun u:{u // u∈l}=>enc1 u.1) (m:=m) (os:=os) (d:=S.toArray) hg (by rw [hms,hcs];exact hnc);have hlen:l'.length=l.length:=rU hso;refine hS.step hσ hG ?_ (fun b' hb'=>.inl hb');refine ⟨by rw [hflat,List.length_map,Nat.mul_one],.inr ⟨b,cap,cur',by rw [hlen],Nat.zero_le _,hg',by omega,hcm,by rw [hcs',hcs,Nat.mul_one],?_⟩⟩;rw [hms] at ht';rw [Nat.mul_one,hlen,ht',hflat];exact hS2
end
end Pk
namespace Pk
open Go
theorem tv:True:=⟨⟩
theorem sj {α:Type} {x y:α} (h:some x=some y):x=y:=Option.some.inj h
section
variable {P:Program} {r:Option Nat} {ops:Array Oper} {ms:List Nat} {D:List Deferred} {k:Nat} {M:Prop} {w0:World} {H0:Hp} {Hs:List Hp} {σ:aS} {L0:bU} {pp:List PanicEntry→aU} {i:Nat} {o:Oper} {rest:List Oper} {E:bU} {F:bV} {d:Nat} {v:Value}
theorem dt {fin:bU→bV→Prop} (hd:o.dst=some d) (hX:∀ {K},TG ⟨D,k,M,w0,H0⟩ (K::Hs) σ (MJ (o.looksAt ops) E++L0) (O P r ops (fun a' w'=>∃ (_:Unit) (K':Hp),K.le K'∧St M w0 H0 (K'::Hs) σ w'∧a'.tmps[d]?=some v∧a'.defers=D∧True) pp [o]))
  (h:DF P r ops ms D k M w0 H0 Hs σ L0 pp fin (i+1) rest ((d,v)::E) F):DF P r ops ms D k M w0 H0 Hs σ L0 pp fin i (o::rest) E F :=
 .det hd (fun a w K hS hA _=>hX a w hS hA) h
theorem dc {us:List Nat} {T:List (Nat×Nat×Value)} {Sg:Option (Nat→Value→aS)} {fin:aS→bU→bV→Prop} {prev:List (Nat×aS)} (hne:us.contains i=false) (hb:GI us ms i=true) (hp:HP (fun τ=>τ=σ) (ms.getD i 0) prev) (hn:eG T i=true) (hd:o.dst=some d)
  (hX:∀ {K},TG ⟨D,k,M,w0,H0⟩ (K::Hs) σ (MJ (o.looksAt ops) E++L0) (O P r ops (fun a' w'=>∃ (_:Unit) (K':Hp),K.le K'∧St M w0 H0 (K'::Hs) σ w'∧a'.tmps[d]?=some v∧a'.defers=D∧True) pp [o]))
  (h:DC P r ops ms D k M w0 H0 Hs L0 pp us T Sg fin prev σ (i+1) rest ((d,v)::E) F):DC P r ops ms D k M w0 H0 Hs L0 pp us T Sg fin prev σ i (o::rest) E F :=
 .det (fun τ=>τ=σ) hne rfl hb hp hn hd (fun τ hτ a w K hS hA _=>by subst hτ;exact hX a w hS hA) h
end
def gd (ops:Array Oper) (L:bU) (j:Nat):Option Value:=((ops[j]?).bind (·.dst)).bind (lk L)
def eb (d k:Nat) (v:Option Value):Option Value:=bif Nat.blt d k then v else none
theorem lG {d k:Nat} {v:Option Value} {u:Value} (h:eb d k v=some u):Nat.blt d k=true∧v=some u:=by
 unfold eb at h
 cases hb:Nat.blt d k with
 | true=>rw [hb] at h;exact ⟨rfl,h⟩
 | false=>rw [hb] at h;cases h
theorem yA {ops:Array Oper} {L:bU} {j:Nat} {v:Value} (h:gd ops L j=some v):∃ dj,(ops[j]?).bind (·.dst)=some dj∧lk L dj=some v:=by
 unfold gd at h
 cases hb:(ops[j]?).bind (·.dst) with
 | none=>rw [hb] at h;cases h
 | some dj=>rw [hb] at h;exact ⟨dj,rfl,h⟩
section
variable {P:Program} {r:Option Nat} {n:aU} {p:List PanicEntry→aU} {ops:Array Oper} {rest:List Oper} {d:Nat} {ty:TypeId} {pos:String} {af:Array Edge} {x:Fr} {Hs:List Hp} {σ:aS} {L:bU}
theorem gt {op:Op} {dst:Option Nat} {j:Nat} {q:Prop} [Decidable q] (hq:q) (hb:gd ops L j=some (.bool (decide q))) (h:OG P r ops n p x Hs σ L (⟨dst,op,ty,pos,af,none⟩::rest)):OG P r ops n p x Hs σ L (⟨dst,op,ty,pos,af,some (j,true)⟩::rest):=by
 obtain ⟨dj,h1,h2⟩:=yA hb;exact gN h1 h2 (decide_eq_true hq) h
theorem gf {op:Op} {j:Nat} {q:Prop} [Decidable q] (hq:¬q) (hb:eb d x.k (gd ops L j)=some (.bool (decide q))) (h:OG P r ops n p x Hs σ ((d,undef)::L) rest):OG P r ops n p x Hs σ L (⟨some d,op,ty,pos,af,some (j,true)⟩::rest):=by
 obtain ⟨hd,hb⟩:=lG hb;obtain ⟨dj,h1,h2⟩:=yA hb;exact gF h1 h2 (decide_eq_false hq) hd h
theorem fU {op:Op} {dst:Option Nat} {j:Nat} {q:Prop} [Decidable q] (hq:¬q) (hb:gd ops L j=some (.bool (decide q))) (h:OG P r ops n p x Hs σ L (⟨dst,op,ty,pos,af,none⟩::rest)):OG P r ops n p x Hs σ L (⟨dst,op,ty,pos,af,some (j,false)⟩::rest):=by
 obtain ⟨dj,h1,h2⟩:=yA hb;exact gN h1 h2 (decide_eq_false hq) h
theorem fW {op:Op} {j:Nat} {q:Prop} [Decidable q] (hq:q) (hb:eb d x.k (gd ops L j)=some (.bool (decide q))) (h:OG P r ops n p x Hs σ ((d,undef)::L) rest):OG P r ops n p x Hs σ L (⟨some d,op,ty,pos,af,some (j,false)⟩::rest):=by
 obtain ⟨hd,hb⟩:=lG hb;obtain ⟨dj,h1,h2⟩:=yA hb;exact gF h1 h2 (decide_eq_true hq) hd h
theorem m1 {y:Operand} {v:Value} (hy:eb d x.k (ev L y)=some v) (h:OG P r ops n p x Hs σ ((d,v)::L) rest):OG P r ops n p x Hs σ L (⟨some d,.move y,ty,pos,af,none⟩::rest):=mv (lG hy).1 (lG hy).2 h
theorem a1 {y:Operand} {v:Value} (hy:eb d x.k (ev L y)=some v) (h:OG P r ops n p x Hs σ ((d,v)::L) rest):OG P r ops n p x Hs σ L (⟨some d,.assign y,ty,pos,af,none⟩::rest):=av (lG hy).1 (lG hy).2 h
theorem pt {c y z:Operand} {q:Prop} [Decidable q] {v:Value} (hq:q) (hc:ev L c=some (.bool (decide q))) (hv:eb d x.k (ev L y)=some v) (h:OG P r ops n p x Hs σ ((d,v)::L) rest):OG P r ops n p x Hs σ L (⟨some d,.pick c y z,ty,pos,af,none⟩::rest):=pT (lG hv).1 hc (decide_eq_true hq) (lG hv).2 h
theorem pf {c y z:Operand} {q:Prop} [Decidable q] {v:Value} (hq:¬q) (hc:ev L c=some (.bool (decide q))) (hv:eb d x.k (ev L z)=some v) (h:OG P r ops n p x Hs σ ((d,v)::L) rest):OG P r ops n p x Hs σ L (⟨some d,.pick c y z,ty,pos,af,none⟩::rest):=pF (lG hv).1 hc (decide_eq_false hq) (lG hv).2 h
theorem cu {M:Prop} {w0:World} {H0:Hp} {D:List Deferred} {k:Nat} {L':bU} (h:NJ L L'):∀ a w,St M w0 H0 Hs σ w→aV D k a L→St M w0 H0 Hs σ w∧aV D k a L':=fun a w hS hA=>⟨hS,hA.cut h⟩
end
end Pk
namespace Pk
open Go
abbrev OI:=Option Addr×Nat
abbrev Hd:=Option Addr×Nat×Nat
section
variable {α:Type}
variable {hd:List Hd} {az:List OI} {g:List (List α)} {j:Nat} {y z:List α} {ad:Option Addr} {cap:Nat}
variable {el:TypeId} {size:Nat} {enc:α→List Value}
theorem gk {σ:aS} {i b j:Nat} {x:aJ} {r:Option aJ} (h:Nat.blt i b=true) (k:cD σ (b+j)=r):cD ((i,x)::σ) (b+j)=r:=by
 have:i < b:=by simpa using h
 simp only [cD,dW (show i≠b+j by omega),cond_false,k]
end
section
variable {α:Type} {x:Fr} {Hs:List Hp} {σ:aS} {L:bU} {N:aU} {el:TypeId} {size:Nat} {enc:α→List Value} {az:List OI} {g:List (List α)}
theorem TG.eq {σ':aS} (e:σ=σ') (h:TG x Hs σ' L N):TG x Hs σ L N:=e▸h
end
section
variable {P:Program} {r:Option Nat} {n:aU} {p:List PanicEntry→aU} {ops:Array Oper} {rest:List Oper} {d:Nat} {ty:TypeId} {pos:String} {af:Array Edge} {x:Fr} {Hs:List Hp} {σ:aS} {L:bU}
end
end Pk
namespace Pk
open Go Go.Proofs
section
variable {P:Program} {r:Option Nat} {n:aU} {p:List PanicEntry→aU} {ops:Array Oper} {rest:List Oper} {d:Nat} {ty:TypeId} {pos:String} {af:Array Edge} {x:Fr} {Hs:List Hp} {σ:aS} {L:bU}
end
end Pk
namespace Pk
open Go
section
variable {P:Program} {r:Option Nat} {n:aU} {p:List PanicEntry→aU} {ops:Array Oper} {rest:List Oper} {d:Nat} {ty:TypeId} {pos:String} {af:Array Edge} {x:Fr} {Hs:List Hp} {σ:aS} {L:bU}
end
end Pk
namespace Pk
open Go
section
variable {α:Type} {hd:List Hd} {az:List OI} {g:List (List α)} {j:Nat} {ad:Option Addr} {cap:Nat} {el:TypeId} {size:Nat} {enc:α→List Value}
variable {x:Fr} {Hs:List Hp} {L:bU} {N:aU}
end
end Pk
namespace Pk
open Go Go.Proofs
theorem kU {α:Type} {enc:α→List Value} {k:Nat} (he:∀ x,(enc x).length=k):∀ (l:List α) (j:Nat),(l.flatMap enc).take (j*k)=(l.take j).flatMap enc
 | [],j=>by simp
 | y::l,0=>by simp
 | y::l,j+1=>by
  have:=kU he l j;simp only [List.flatMap_cons,List.take_succ_cons];rw [List.take_append,he,show (j+1)*k - k=j*k by rw [Nat.add_mul];omega,this,List.take_of_length_le (by rw [he,Nat.add_mul];omega)]
theorem rX {α:Type} {enc:α→List Value} {k:Nat} (he:∀ x,(enc x).length=k):∀ (l:List α) (j:Nat),(l.flatMap enc).drop (j*k)=(l.drop j).flatMap enc
 | [],j=>by simp
 | y::l,0=>by simp
 | y::l,j+1=>by
  have:=rX he l j;simp only [List.flatMap_cons,List.drop_succ_cons];rw [List.drop_append,he,show (j+1)*k - k=j*k by rw [Nat.add_mul];omega,this,List.drop_of_length_le (by rw [he,Nat.add_mul];omega),List.nil_append]
theorem KH (q:Addr) (a b:Nat):(q.add a).add b=q.add (a+b):=by
 unfold Addr.add;by_cases ha:a=0 <;> by_cases hb:b=0 <;> simp [ha,hb,Nat.add_assoc]
theorem zM {q:Addr} {a b:Nat} {u:Operand} {L:bU} (h:ev L u=some (.pointer (some ((q.add a).add b)))):ev L u=some (.pointer (some (q.add (a+b)))):=by
 rw [h,KH]
theorem yB {q:Addr} {a b c:Nat} {u:Operand} {L:bU} (h:ev L u=some (.pointer (some (((q.add a).add b).add c)))):ev L u=some (.pointer (some (q.add (a+(b+c))))):=by
 rw [h,KH,KH]
section
variable {P:Program} {r:Option Nat} {n:aU} {p:List PanicEntry→aU} {ops:Array Oper} {rest:List Oper} {d:Nat} {ty:TypeId} {pos:String} {af:Array Edge} {x:Fr} {Hs:List Hp} {σ:aS} {L:bU}
end
end Pk
namespace Pk
open Go
section
variable {α:Type} {hd:List Hd} {az:List OI} {g:List (List α)} {ad:Option Addr} {cap:Nat} {el iel:TypeId} {size:Nat} {enc:α→List Value}
variable {x:Fr} {Hs:List Hp} {σ:aS} {L:bU} {N:aU}
theorem TG.stillC (t:Nat) {b:Nat} {ty:TypeId} {cs:List Value} (ht:cD σ t=some (aM b ty cs)) (h:∀ K,aY K ⟨b,0,none⟩ cs→TG x (K::Hs) (eX σ t) L N):TG x Hs σ L N:=by
 intro a w hS hA;refine h _ ?_ a w (hS.rest (t:=t)) hA;have hho:=hS.get ht;have hf:∀ c,(aM b ty cs).foot=some c→x.w0.heap.size≤c:=(hS.own t _ (dU ht)).2;refine ⟨rfl,fun j v hj=>⟨cs.toArray,ty,(0,0),hS.rest_vis ht hf rfl hho,?_⟩⟩;simpa using hj
theorem TG.apJ {D:List Deferred} {k:Nat} {M:Prop} {w0:World} {H0:Hp} {a:Act} {w:World} {Hs':List Hp} {σ':aS} {L':bU} (h:TG ⟨D,k,M,w0,H0⟩ Hs σ L (fun a w=>St M w0 H0 Hs' σ' w∧aV D k a L')) (hS:St M w0 H0 Hs σ w) (hA:aV D k a L):St M w0 H0 Hs' σ' w∧aV D k a L':=h a w hS hA
end
end Pk
namespace Pk
open Go
inductive Any where
 | i (n:Int)
 | s (b:aD)
deriving DecidableEq,Inhabited
section
variable {P:Program} {r:Option Nat} {n:aU} {p:List PanicEntry→aU} {ops:Array Oper} {rest:List Oper} {d:Nat} {ty:TypeId} {pos:String} {af:Array Edge} {x:Fr} {Hs:List Hp} {σ:aS} {L:bU}
end
end Pk
namespace Pk
open Go Go.Proofs
theorem OJ {a b:Bool} (ha:a=true) (hb:b=true):(a&&b)=true:=by rw [ha,hb];rfl
end Pk
namespace Pk
open Go Go.Proofs
section
variable {P:Program} {r:Option Nat} {n:aU} {p:List PanicEntry→aU} {ops:Array Oper} {rest:List Oper} {d:Nat} {ty:TypeId} {pos:String} {af:Array Edge} {x:Fr} {Hs:List Hp} {σ:aS} {L:bU}
end
end Pk
namespace Pk
open Go Go.Proofs
abbrev SU (v:Value):List PanicEntry:=[{ v:=v,recovered:=false }]
section
variable {P:Program} {r:Option Nat} {n:aU} {p:List PanicEntry→aU} {ops:Array Oper} {rest:List Oper} {dst:Option Nat} {ty:TypeId} {pos:String} {af:Array Edge} {x:Fr} {Hs:List Hp} {σ:aS} {L:bU}
theorem KI {y:Operand} {t:TypeId} {v:Value} (hy:ev L y=some (.iface t v)) (h:TG x Hs σ L (p (SU (.iface t v)))):OG P r ops n p x Hs σ L (⟨dst,.panic y,ty,pos,af,none⟩::rest):=fun a w hS hA=>by
 show O P r ops n p _ a w;simp only [O,Region.wanted,if_true];refine ⟨fun _ _=>trivial,?_⟩;rw [Oper.semAt_eq _ _ _ (fun c h=>by cases h)];have e:(execOp a.eval ⟨dst,.panic y,ty,pos,af,none⟩).run P w=.halt (.panic (.iface t v)) w:=by
  simp [execOp,hA.eval hy,Instr.panic,goPanic]
 rw [e];exact h a w hS hA
theorem UC {y:Operand} {xs:List Operand} {ats:Array TypeId} {f:FuncId} {fnc:Func} {cd:Code} {nt:Nat} {first cap:List Value} {vs args:List Value} (hcall:∀ args w,(callFunc f args).run P w=.ok (.enter f args) w) (hfn:P.funcs[f]?=some fnc) (hb:fnc.body=some cd) (hn:fnc.ntmps=nt) (hf:ev L y=some (.func (.func f) first.toArray cap.toArray)) (hxs:mX L xs=some vs) (hargs:first++vs++cap=args) (hl:Nat.ble args.length nt=true) (J:Value→World→Prop) (R:Ending→World→Prop) (hp:∀ ch a w,aV x.D x.k a L→R (.panicked ch) w→p ch a w)
  (h1:TG ⟨[],nt,x.M,x.w0,x.H0⟩ Hs σ (fZ 0 args) (W P none cd (Rt P fnc fun e w=>∃ v,e=.returned v∧J v w) (Rt P fnc fun e w=>∃ v,e=.returned v∧J v w) [] (fun ch a w=>a.defers=[]∧R (.panicked ch) w)))
  (h2:∀ a w v,aV x.D x.k a L→J v w→O P r ops n p rest (a.put dst v) w):OG P r ops n p x Hs σ L (⟨dst,.call ⟨.value y,xs.toArray,ats⟩,ty,pos,af,none⟩::rest):=fun c w hS hA=>by
 subst hargs;have hcs:Calls P f (first++vs++cap).toArray w (fun e w=>(∃ v,e=.returned v∧J v w)∨∃ ch,e=.panicked ch∧R e w):=enter hfn hb hn hl fun a hA'=>by
  refine lL ?_ ?_ (fun _ K _ _ hK h=>⟨K,hK,h⟩) (fun ch _ _ h=>⟨h.1,.inr ⟨ch,rfl,h.2⟩⟩) (h1 a w hS hA')
  ·exact fun a w ⟨h1,v,h2,h3⟩=>⟨h1,v,h2,.inl h3⟩
  exact fun a w ⟨h1,v,h2,h3⟩=>⟨h1,v,h2,.inl h3⟩
 obtain ⟨Q,hQ⟩:∃ Q:Ending→World→Prop,Q=fun e w=>(∃ v,e=.returned v∧J v w)∨∃ ch,e=.panicked ch∧R e w:=⟨_,rfl⟩;rw [← hQ] at hcs;refine iL rfl (fun _ h=>by cases h) (gA hA hf hxs hcall) (by simpa using hcs) ?_ ?_ ?_ <;> rw [hQ]
 ·rintro v w' (⟨u,hu,hJ⟩ | ⟨ch,hu,_⟩)
  ·cases hu;exact h2 c w' v hA hJ
  cases hu
 ·rintro ch w' (⟨u,hu,_⟩ | ⟨ch',hu,hR⟩)
  ·cases hu
  exact hp ch c w' hA hR
 rintro w' (⟨u,hu,_⟩ | ⟨ch,hu,_⟩) <;> cases hu
end
end Pk
namespace Pk
open Go Go.Proofs
section
variable {P:Program} {r:Option Nat} {n rt:aU} {e:List (Nat×aU)} {p:List PanicEntry→aU} {a:Act} {w:World}
variable {D:List Deferred} {k:Nat} {L:bU} {ops:Array Oper} {rest:List Oper} {d:Nat} {ty:TypeId} {pos:String} {af:Array Edge} {dst:Option Nat}
variable {M:Prop} {w0:World} {H0:Hp} {Hs:List Hp} {σ:aS}
end
section
variable {P:Program} {r:Option Nat} {n:aU} {p:List PanicEntry→aU} {ops:Array Oper} {rest:List Oper} {d:Nat} {ty:TypeId} {pos:String} {af:Array Edge} {x:Fr} {Hs:List Hp} {σ:aS} {L:bU}
end
end Pk
namespace Pk
open Go Go.Proofs
end Pk
namespace Pk
open Go Go.Proofs
end Pk
namespace Pk
open Go Go.Proofs
section
variable {P:Program} {r:Option Nat} {n:aU} {p:List PanicEntry→aU} {ops:Array Oper} {rest:List Oper} {d:Nat} {ty:TypeId} {pos:String} {af:Array Edge} {x:Fr} {Hs:List Hp} {σ:aS} {L:bU}
theorem tU {α:Type} (x:α):([x]:List α).length=1:=rfl
end
end Pk
namespace Pk
open Go Go.Proofs
section
variable {x:Fr} {Hs:List Hp} {σ:aS} {L:bU} {N:aU}
variable {P:Program} {fn:Func} {R:Ending→World→Prop}
end
end Pk
namespace Pk
open Go Go.Proofs
section
variable {P:Program} {r:Option Nat} {n:aU} {p:List PanicEntry→aU} {ops:Array Oper} {rest:List Oper} {d:Nat} {ty:TypeId} {pos:String} {af:Array Edge} {x:Fr} {Hs:List Hp} {σ:aS} {L:bU} {N:aU}
variable {κ α:Type} {ke:κ→Value} {enc:α→Value}
variable [DecidableEq κ] {kd:TypeDesc} [rA ke kd]
end
end Pk
namespace Pk
open Go Go.Proofs Go.Sort
section
variable {P:Program} {r:Option Nat} {n:aU} {p:List PanicEntry→aU} {ops:Array Oper} {rest:List Oper} {d:Nat} {ty:TypeId} {pos:String} {af:Array Edge} {x:Fr} {Hs:List Hp} {σ:aS} {L:bU}
end
end Pk
namespace Pk
open Go Go.Proofs
section
variable {P:Program} {r:Option Nat} {n:aU} {p:List PanicEntry→aU} {ops:Array Oper} {rest:List Oper} {d:Nat} {ty:TypeId} {pos:String} {af:Array Edge} {x:Fr} {Hs:List Hp} {σ:aS} {L:bU}
end
end Pk
namespace Pk
open Go Go.Proofs
section
variable {M:Prop} {w0:World} {H0:Hp} {Hs:List Hp} {σ:aS} {w:World}
end
section
variable {P:Program} {r:Option Nat} {n:aU} {p:List PanicEntry→aU} {ops:Array Oper} {rest:List Oper} {d:Nat} {ty:TypeId} {pos:String} {af:Array Edge} {x:Fr} {Hs:List Hp} {σ:aS} {L:bU}
end
end Pk
namespace Pk
open Go Go.Proofs
section
variable {P:Program} {f:FuncId} {args:Array Value} {M:Prop} {W:World} {H:Hp} {α:Type}
end
section
variable {P:Program} {r:Option Nat} {n:aU} {p:List PanicEntry→aU} {ops:Array Oper} {rest:List Oper} {dst:Option Nat} {ty:TypeId} {pos:String} {af:Array Edge} {x:Fr} {Hs:List Hp} {σ:aS} {L:bU}
end
end Pk
namespace Pk
open Go Go.Proofs
def KJ (P:Program) (fn:Func) (R:Ending→World→Prop):aU:=fun a w=>Leaves P fn a.tmps R a.defers .returning w
def OL (P:Program) (fn:Func) (R:Ending→World→Prop):List PanicEntry→aU:=fun ch a w=>Leaves P fn a.tmps R a.defers (.panicking ch) w
abbrev IH (f:FuncId) (cap:List Value):Deferred:={ target:=.fn (.func f) cap.toArray,args:=#[] }
section
variable {P:Program} {f:FuncId} {fn:Func} {c:Code} {nt:Nat} {w:World} {R:Ending→World→Prop}
theorem KK {l:List Value} (hf:P.funcs[f]?=some fn) (hb:fn.body=some c) (hn:fn.ntmps=nt) (hl:Nat.ble l.length nt=true)
  (h:∀ a,aV [] nt a (fZ 0 l)→W P none c (fun _ _=>False) (KJ P fn R) [] (OL P fn R) a w):Calls P f l.toArray w R:=by
 have hl':l.length≤nt:=by simpa using hl
 have h1:=h { tmps:=l.toArray++Array.replicate (fn.ntmps - l.toArray.size) undef,defers:=[] } ⟨rfl,by simp [hn];omega,fun i v hi=>by
  obtain ⟨_,h2⟩:=mA l 0 i v hi;simp only [Nat.sub_zero] at h2;have hlt:i < l.length:=(List.getElem?_eq_some_iff.1 h2).1;rw [Array.getElem?_append_left (by simpa using hlt)]
  simpa using h2⟩
 refine calls_of_wp_defers hf hb ((wpIn_wide (n:=0)).1 (wpIn_mono h1 ?_));intro z a w hz
 cases z with
 | normal=>exact hz.elim
 | ret=>exact hz
 | panic ch=>exact hz
 | exit id=>obtain ⟨K,hK,_⟩:=hz;simp [wL] at hK
 | goto l=>exact hz
 | outgrown=>exact hz.elim
end
section
variable {P:Program} {n:aU} {p:List PanicEntry→aU} {ops:Array Oper} {rest:List Oper} {ty:TypeId} {pos:String} {af:Array Edge} {x:Fr} {Hs:List Hp} {σ:aS} {L:bU} {D:List Deferred} {k:Nat} {M:Prop} {w0:World} {H0:Hp} {fn:Func} {R:Ending→World→Prop}
theorem df {f:FuncId} {cap:List Value} {y:Operand} (hy:ev L y=some (.func (.func f) #[] cap.toArray)) (h:TG ⟨IH f cap::D,k,M,w0,H0⟩ Hs σ L (O P none ops n p rest)) :
  OG P none ops n p ⟨D,k,M,w0,H0⟩ Hs σ L (⟨none,.defer ⟨.value y,#[],#[]⟩,ty,pos,af,none⟩::rest):=fun a w hS hA=>by
 show O P none ops n p _ a w;simp only [O,Region.wanted,if_true];refine ⟨fun _ _=>trivial,?_⟩;rw [show (FW none).round=none from rfl,Oper.semAt_none];have hr:(execOp a.eval ⟨none,.defer ⟨.value y,#[],#[]⟩,ty,pos,af,none⟩).run P w=.ok (.defer (IH f cap)) w:=by
  simp [execOp,resolve,hA.eval hy,Deferred.ofValue]
 rw [hr];show O P none ops n p rest _ w;refine h _ w hS ⟨?_,?_,?_⟩
 ·simp [Act.put,hA.defers]
 ·simpa [Act.put] using hA.size
 intro i v hi;simpa [Act.put] using hA.get i v hi
theorem OM (h:TG ⟨[],k,M,w0,H0⟩ Hs σ L (Rt P fn R)):TG ⟨[],k,M,w0,H0⟩ Hs σ L (KJ P fn R):=fun a w hS hA=>by
 obtain ⟨_,v,h1,h2⟩:=h a w hS hA;unfold KJ;rw [hA.defers];exact ⟨v,h1,h2⟩
theorem rtF {f:FuncId} {cap:List Value} (hcall:∀ args w,(callFunc f args).run P w=.ok (.enter f args) w)
  (hc:∀ w,St M w0 H0 Hs σ w→CallsD P f cap.toArray .returning w (fun e u w'=>(∃ v,e=.returned v)∧u=.returning∧St M w0 H0 Hs σ w')) (h:TG ⟨[],k,M,w0,H0⟩ Hs σ L (Rt P fn R)):TG ⟨[IH f cap],k,M,w0,H0⟩ Hs σ L (KJ P fn R):=fun a w hS hA=>by
 unfold KJ;rw [hA.defers];refine leaves_cons (f:=f) (args:=cap.toArray) (by simp) (by simp [invoke,hcall]) ((hc w hS).mono ?_);rintro e u w' ⟨⟨v',rfl⟩,rfl,hS'⟩;obtain ⟨_,v,h1,h2⟩:=h { a with defers:=[] } w' hS' ⟨rfl,hA.size,hA.get⟩;exact ⟨v,h1,h2⟩
theorem pnF {f:FuncId} {cap:List Value} {ch:List PanicEntry} {σ':Nat→List Value→aS} (hcall:∀ args w,(callFunc f args).run P w=.ok (.enter f args) w)
  (hc:∀ w,St M w0 H0 Hs σ w→CallsD P f cap.toArray (.panicking ch) w (fun e u w'=>(∃ v,e=.returned v)∧settle u=.returning∧∃ b cs,St M w0 H0 Hs (σ' b cs) w')) (h:∀ b cs,TG ⟨[],k,M,w0,H0⟩ Hs (σ' b cs) L (Rt P fn R)):TG ⟨[IH f cap],k,M,w0,H0⟩ Hs σ L (OL P fn R ch):=fun a w hS hA=>by
 unfold OL;rw [hA.defers];refine leaves_cons (f:=f) (args:=cap.toArray) (by simp) (by simp [invoke,hcall]) ((hc w hS).mono ?_);rintro e u w' ⟨⟨v',rfl⟩,hu,b,cs,hS'⟩;obtain ⟨_,v,h1,h2⟩:=h b cs { a with defers:=[] } w' hS' ⟨rfl,hA.size,hA.get⟩;simp only [hu];exact ⟨v,h1,h2⟩
end
end Pk
namespace Pk
open Go Go.Proofs
section
variable {κ ι β:Type}
variable {ent:ι→β→List aJ} {hv:ι→β→Value} {hs:List (κ×Value)} {az:List ι} {m:List (κ×β)}
variable [DecidableEq κ]
end
section
variable {x:Fr} {Hs:List Hp} {σ:aS} {L:bU} {N:aU}
end
section
variable {κ α:Type} {ke:κ→Value} {el:TypeId} {size:Nat} {enc:α→List Value}
variable {x:Fr} {Hs:List Hp} {L:bU} {N:aU} {hs:List (κ×Value)} {az:List OI} {m:List (κ×List α)}
variable [DecidableEq κ]
section
variable {P:Program} {r:Option Nat} {n:aU} {p:List PanicEntry→aU} {ops:Array Oper} {rest:List Oper} {kd:TypeDesc} [rA ke kd]
end
end
section
variable {P:Program} {r:Option Nat} {n:aU} {p:List PanicEntry→aU} {ops:Array Oper} {rest:List Oper} {d:Nat} {ty:TypeId} {pos:String} {af:Array Edge} {x:Fr} {Hs:List Hp} {σ:aS} {L:bU}
end
section
variable {P:Program} {r:Option Nat} {n:aU} {p:List PanicEntry→aU} {ops:Array Oper} {rest:List Oper} {d:Nat} {ty:TypeId} {pos:String} {af:Array Edge} {x:Fr} {Hs:List Hp} {σ:aS} {L:bU}
end
end Pk
namespace Pk
open Go Go.Proofs
section
variable {κ ι β:Type} {ent:ι→β→List aJ} {hv:ι→β→Value} {hs:List (κ×Value)} {az:List ι} {m:List (κ×β)}
variable {x:Fr} {Hs:List Hp} {L:bU} {N:aU}
end
section
variable {S ρ:Type}
def II (step:S→Nat→Option (S⊕ρ)) (Kf:S→Option ρ):List Nat→S→Option ρ
 | [],s=>Kf s
 | i::l,s=>match step s i with
  | some (.inl s')=>II step Kf l s'
  | some (.inr z)=>some z
  | none=>none
variable {n:Nat} {step:S→Nat→Option (S⊕ρ)} {Kf:S→Option ρ} {s0:S} {z:ρ}
structure oS (n:Nat) (step:S→Nat→Option (S⊕ρ)) (Kf:S→Option ρ) (z:ρ) (seen:List Nat) (s:S):Prop where
 nd:seen.Nodup
 lt:∀ i∈seen,i < n
 all:∀ rest,(seen++rest).Perm (List.range n)→II step Kf rest s=some z
variable {seen:List Nat} {s:S}
end
section
variable {P:Program} {r0:Option Nat} {nn rt:aU} {e:List (Nat×aU)} {p:List PanicEntry→aU} {ops:Array Oper} {rest:List Oper} {d:Nat} {ty:TypeId} {pos:String} {af:Array Edge} {x:Fr} {Hs:List Hp} {σ:aS} {L:bU}
variable {κ:Type} {ke:κ→Value} {hs:List (κ×Value)} {b n:Nat}
end
end Pk
namespace Pk
open Go Go.Proofs
section
variable {P:Program} {r:Option Nat} {n:aU} {p:List PanicEntry→aU} {ops:Array Oper} {rest:List Oper} {d:Nat} {ty:TypeId} {pos:String} {af:Array Edge} {x:Fr} {Hs:List Hp} {σ:aS} {L:bU}
end
section
variable {P:Program} {n:aU} {p:List PanicEntry→aU} {ops:Array Oper} {rest:List Oper} {d:Nat} {ty:TypeId} {pos:String} {af:Array Edge} {x:Fr} {Hs:List Hp} {σ:aS} {L:bU}
end
end Pk
namespace Pk
open Go Go.Proofs
section
variable {P:Program} {r:Option Nat} {n:aU} {p:List PanicEntry→aU} {ops:Array Oper} {rest:List Oper} {d:Nat} {ty:TypeId} {pos:String} {af:Array Edge} {x:Fr} {Hs:List Hp} {σ:aS} {L:bU}
end
section
variable {M:Prop} {w0 w:World} {H0:Hp} {Hs:List Hp} {α:Type} {ad:Option Addr} {cap:Nat} {el:TypeId} {size:Nat} {enc:α→List Value} {l l':List α} {t:Nat} {σ:aS}
end
end Pk
namespace Pk
open Go
section
variable {x:Fr} {Hs:List Hp} {σ:aS} {L:bU} {N:aU} {ty:TypeId} {cs:List Value} {b:Nat} {K:Hp}
end
section
variable {P:Program} {r:Option Nat} {n:aU} {p:List PanicEntry→aU} {ops:Array Oper} {rest:List Oper} {d:Nat} {ty:TypeId} {pos:String} {af:Array Edge} {x:Fr} {A:Hp} {Hs:List Hp} {σ:aS} {L:bU}
end
end Pk
namespace Pk
open Go
section
variable {x:Fr} {Hs:List Hp} {σ:aS} {L:bU} {N:aU}
end
end Pk
namespace Pk
open Go Go.Proofs
def ON (P:Program) (f:FuncId) (el:TypeId) (k:Nat):Prop :=
 ∀ (w:World) (ad:Option Addr) (cap nn:Nat) (cs:List Value) (j:Nat) (vad:Option Addr) (vcap m:Nat) (vs:List Value),
  (aJ.row ad cap el k nn cs).holds w→j≤nn→nn+m≤1073741824→vs.length=m*k→(m=0∨mG (hp w) vad m vcap k vs)→cs.all (·.oneCell')=true→(∀ q,vad=some q→0 < m→∀ b,ad.map (·.block)=some b→b≠q.block)→m≤vcap →
  Calls P f #[.slice ad nn cap,.int .i64 j,.slice vad m vcap] w fun e w'=>∃ ad' cap',e=.returned (.slice ad' (nn+m) cap')∧(aJ.row ad' cap' el k (nn+m) (cs.take (j*k)++vs++cs.drop (j*k))).holds w'∧lY w w' (ad.map (·.block))∧∀ b,ad'.map (·.block)=some b→ad.map (·.block)=some b∨w.heap.size≤b
section
variable {P:Program} {r:Option Nat} {n:aU} {p:List PanicEntry→aU} {ops:Array Oper} {rest:List Oper} {d:Nat} {ty:TypeId} {pos:String} {af:Array Edge} {x:Fr} {Hs:List Hp} {σ:aS} {L:bU}
theorem UD {α:Type} (tg:Nat) {enc:α→List Value} {k:Nat} (hk0:Nat.blt 0 k=true) (he:∀ x,(enc x).length=k) (h1:∀ x,(enc x).all (·.oneCell')=true) (j:Nat) {xs:List α} {l:List α} {fid:Nat} {z y s v:Operand} {ats:Array TypeId} {ad:Option Addr} {cap nn mm:Nat} {el:TypeId} {vad:Option Addr} {vcap:Nat} {m:Int} {K:Hp}
  (hC:ON P fid el k) (hcall:∀ args w,(callFunc fid args).run P w=.ok (.enter fid args) w) (hd:Nat.blt d x.k=true) (hz:ev L z=some (.func (.func fid) #[] #[])) (hs:ev L s=some (.slice ad nn cap)) (hσ:cD σ tg=some (.list ad cap el k enc l)) (hn:nn=l.length) (hy:ev L y=some (.int .i64 m)) (hv:ev L v=some (.slice vad mm vcap)) (hmm:mm=xs.length) (hl:Sl (aE enc) k K vad vcap xs) (i:Nat) (hK:Hs[i]?=some K) (hm:m=(j:Int)) (hj:j≤l.length) (hb:l.length+xs.length≤1073741824)
  (h:∀ ad' cap',OG P r ops n p x Hs (dE σ tg (.list ad' cap' el k enc (l.take j++xs++l.drop j))) ((d,.slice ad' (l.take j++xs++l.drop j).length cap')::L) rest):OG P r ops n p x Hs σ L (⟨some d,.call ⟨.value z,#[s,y,v],ats⟩,ty,pos,af,none⟩::rest):=fun a w hS hA=>by
 subst hn;subst hm;subst hmm;have hk:0 < k:=by simpa using hk0
 have hrow:=hS.get hσ;have hxs:mX L [s,y,v]=some [.slice ad l.length cap,.int .i64 (j:Int),.slice vad xs.length vcap]:=by simp [mX,hs,hy,hv]
 have hlt:(l.take j++xs++l.drop j).length=l.length+xs.length:=by simp;omega
 have hflat:(l.flatMap enc).take (j*k)++xs.flatMap enc++(l.flatMap enc).drop (j*k)=(l.take j++xs++l.drop j).flatMap enc:=by
  rw [kU he,rX he];simp
 have hone:(l.flatMap enc).all (·.oneCell')=true:=by
  rw [List.all_eq_true];intro u hu;obtain ⟨y',_,hu⟩:=List.mem_flatMap.1 hu;exact List.all_eq_true.1 (h1 y') u hu
 have hcon:=hC w ad cap l.length (l.flatMap enc) j vad vcap xs.length (xs.flatMap enc) hrow hj hb (hZ he xs) (by
  rcases Nat.eq_zero_or_pos xs.length with h0 | h0
  ·exact .inl h0
  ·exact .inr ((mG.mono (hl.src he h1 hk h0) (hS.at i hK)).mono hS.vis_le)) hone (fun q hq h0 b hb' e=>by
  obtain ⟨x1,hx1⟩:=jI h0;obtain ⟨q',cs',e1,hspot,hlen,hcells,hR⟩:=hl.2 0 x1 hx1;have e1':q=q':=by rw [hq] at e1;exact Option.some.inj e1
  subst e1';have e2:q.add (0*k)=q:=by simp [Addr.add]
  rw [e2] at hcells;have hcl:0 < cs'.length:=by rw [hlen];exact hk
  obtain ⟨c,ty',fz,h3,_⟩:=(hcells.mono (hS.at i hK)).2 0 _ (List.getElem?_eq_getElem hcl);unfold eL at h3;rw [if_pos ⟨tg,_,dU hσ,by rw [← e];exact hb'⟩] at h3
  cases h3) hl.1.1
 have enterIt:∀ R:Ending→World→Prop,Calls P fid #[.slice ad l.length cap,.int .i64 (j:Int),.slice vad xs.length vcap] w R→(∀ e w',R e w'→∃ ad' cap',e=.returned (.slice ad' (l.length+xs.length) cap')∧St x.M x.w0 x.H0 Hs (dE σ tg (.list ad' cap' el k enc (l.take j++xs++l.drop j))) w')→O P r ops n p (⟨some d,.call ⟨.value z,#[s,y,v],ats⟩,ty,pos,af,none⟩::rest) a w:=fun R hR hk=>by
  refine iL rfl (fun _ h=>by cases h) (gA (xs:=[s,y,v]) (first:=#[]) (cap:=#[]) hA hz hxs hcall) (by simpa using hR) ?_ ?_ ?_
  ·intro u w' hv;obtain ⟨ad',cap',e,hS'⟩:=hk _ _ hv;cases e;have:=h ad' cap' _ w' hS' (hA.put hd (.slice ad' (l.take j++xs++l.drop j).length cap'));rw [hlt] at this;exact this
  ·intro ch w' hv;obtain ⟨_,_,e,_⟩:=hk _ _ hv;cases e
  intro w' hv;obtain ⟨_,_,e,_⟩:=hk _ _ hv;cases e
 refine enterIt _ hcon fun e w' hw=>?_;obtain ⟨ad',cap',he',hh,hG,hf⟩:=hw;refine ⟨ad',cap',he',?_⟩;refine hS.step hσ hG ?_ hf;unfold aJ.list;rw [hlt,← hflat];exact hh
end
end Pk
namespace Pk
open Go Go.Proofs
theorem rD {z:List Value}:∀ {n:Nat},0 < z.length→(Builtin.zeroCells z.toArray n).toList=(List.replicate n z).flatten:=fun {n} hz=>by
 unfold Builtin.zeroCells;apply List.ext_getElem?;intro i;have hlen:((List.replicate n z).flatten).length=n*z.length:=by simp
 by_cases hi:i < n*z.length
 ·have h1:(((Array.range (n*z.toArray.size)).map fun i=>z.toArray[i%z.toArray.size]!).toList)[i]?=some z.toArray[i%z.toArray.size]!:=by
   simp [hi]
  rw [h1];have hm:i%z.length < z.length:=Nat.mod_lt _ hz;have h2:∀ (n i:Nat),i < n*z.length→((List.replicate n z).flatten)[i]?=z[i%z.length]?:=by
   intro n
   induction n with
   | zero=>intro i h;omega
   | succ n ih =>
    intro i h;rw [List.replicate_succ,List.flatten_cons];by_cases hl:i < z.length
    ·rw [List.getElem?_append_left hl,Nat.mod_eq_of_lt hl]
    rw [List.getElem?_append_right (by omega),ih (i - z.length) (by rw [Nat.add_mul] at h;omega),← Nat.mod_eq_sub_mod (by omega)]
  rw [h2 n i hi];have:z.toArray[i%z.toArray.size]! = z[i%z.length]:=by
   simp only [List.size_toArray];rw [getElem!_pos z.toArray _ (by simpa using hm)];simp
  rw [this,List.getElem?_eq_getElem hm]
 rw [List.getElem?_eq_none (by simp;omega),List.getElem?_eq_none (by omega)]
section
variable {P:Program} {r:Option Nat} {n:aU} {p:List PanicEntry→aU} {ops:Array Oper} {rest:List Oper} {d:Nat} {ty:TypeId} {pos:String} {af:Array Edge} {x:Fr} {Hs:List Hp} {σ:aS} {L:bU}
theorem KL (size cap:Nat) (ad:Option Addr):iN size cap 0 ad=ad:=by
 unfold iN
 split
 ·rfl
 cases ad <;> simp [Addr.add]
theorem wW (w:World) (o:Option Nat):lY w w o:=⟨⟨rfl,rfl,rfl,Nat.le_refl _,fun _ _ _=>rfl⟩,Nat.le_refl _⟩
theorem GP {w:World} {ad:Option Addr} {cap:Nat} {el:TypeId} {size n j:Nat} {xs:List Value} (h:(aJ.row ad cap el size n xs).holds w) (hj:j≤n):(aJ.row ad cap el size j (xs.take (j*size))).holds w:=by
 have hl:=(gP h).1;have hle:j*size≤n*size:=Nat.mul_le_mul_right _ hj;refine ⟨by rw [List.length_take];omega,?_⟩;rcases h.2 with ⟨e0,h0⟩ | ⟨b,cap',cur,he,hbb,hw,hnc,hcm,hcs,ht⟩
 ·cases e0;left;have:j=0:=by omega
  subst this;exact ⟨rfl,rfl⟩
 cases he;right;refine ⟨b,_,cur,rfl,hbb,hw,by omega,hcm,hcs,?_⟩;rw [← ht,List.take_take,Nat.min_eq_left hle]
theorem OO {α:Type} (tg:Nat) {enc:α→List Value} {size:Nat} (he:∀ x,(enc x).length=size) (j:Nat) {l:List α} {ad:Option Addr} {cap ln:Nat} {t el:TypeId} {y hi:Operand} {kh:IntKind} {mh:Int} (hu:P.underlying t=some (.slice el)) (hz:∀ w,(Go.sizeOf el).run P w=.ok size w) (hd:Nat.blt d x.k=true)
  (hy:ev L y=some (.slice ad ln cap)) (hσ:cD σ tg=some (.list ad cap el size enc l)) (hln:ln=l.length) (hhi:ev L hi=some (.int kh mh)) (hj1:mh=(j:Int)) (hj:j≤l.length)
  (h:OG P r ops n p x Hs (dE σ tg (.list ad cap el size enc (l.take j))) ((d,.slice ad (l.take j).length cap)::L) rest):OG P r ops n p x Hs σ L (⟨some d,.slice t y none (some hi) none,ty,pos,af,none⟩::rest):=fun a w hS hA=>by
 subst hln;have hrow:=hS.get hσ;have hnc:=(gP hrow).2;have hb:=lP (P:=P) (w:=w) (b:=true) hA (lo:=none) (hi:=some hi) (ln:=l.length) (cap:=cap) (i:=0) (j:=j) (by simp [hY]) (by simp [hY,hhi,hj1]) (Nat.zero_le _) (by omega);have hlt:(l.take j).length=j:=by rw [List.length_take];omega
 have hv:(execOp a.eval ⟨some d,.slice t y none (some hi) none,ty,pos,af,none⟩).run P w=.ok (.value (.slice ad j cap)) w:=by
  have e:=KL size cap ad;unfold iN at e;simp only [Nat.zero_mul] at e;simp at hb;simp [execOp,Instr.sliceAt,Instr.slice,hA.eval hy,run_underlying hu,hb,hz];simpa using e
 refine cW rfl (fun _ h=>by cases h) (w':=w) hv ?_;rw [hlt] at h;refine h _ w (hS.step hσ (wW w _) ?_ (fun b hb=>.inl hb)) (hA.put hd _);have:=GP hrow hj;rw [kU he] at this;unfold aJ.list;rw [hlt];exact this
theorem OP {α:Type} (tg:Nat) {enc:α→List Value} {size:Nat} (i:Nat) {l:List α} {ad:Option Addr} {cap ln:Nat} {t el:TypeId} {y lo:Operand} {kl:IntKind} {ml:Int} (hu:P.underlying t=some (.slice el)) (hz:∀ w,(Go.sizeOf el).run P w=.ok size w) (hd:Nat.blt d x.k=true)
  (hy:ev L y=some (.slice ad ln cap)) (hσ:cD σ tg=some (.list ad cap el size enc l)) (hln:ln=l.length) (hlo:ev L lo=some (.int kl ml)) (hi1:ml=(i:Int)) (hi:i≤l.length)
  (h:OG P r ops n p x Hs σ ((d,.slice (iN size cap i ad) (l.length - i) (cap - i))::L) rest):OG P r ops n p x Hs σ L (⟨some d,.slice t y (some lo) none none,ty,pos,af,none⟩::rest):=fun a w hS hA=>by
 subst hln;have hrow:=hS.get hσ;have hnc:=(gP hrow).2;have hb:=lP (P:=P) (w:=w) (b:=true) hA (lo:=some lo) (hi:=none) (ln:=l.length) (cap:=cap) (i:=i) (j:=l.length) (by simp [hY,hlo,hi1]) (by simp [hY]) hi (by omega);refine cW rfl (fun _ h=>by cases h) (w':=w) (v:=.slice (iN size cap i ad) (l.length - i) (cap - i)) ?_ (h _ w hS (hA.put hd _));simp only [Option.map_some,Option.map_none] at hb;simp [execOp,Instr.sliceAt,Instr.slice,hA.eval hy,run_underlying hu,hb,hz,iN]
theorem OQ {α:Type} (tg:Nat) {enc:α→List Value} {size bytes:Nat} {z:List Value} (he:∀ x,(enc x).length=size) (i:Nat) (z0:α) {zv:Value} {l:List α} {ad:Option Addr} {cap:Nat} {t el:TypeId} {y:Operand} (hE:cG P t el z size bytes) (hzv:∀ w,(zeroValue el).run P w=.ok zv w) (hzc:bN zv=enc z0) (ho:(enc z0).all (·.oneCell')=true)
  (hy:ev L y=some (.slice (iN size cap i ad) (l.length - i) (cap - i))) (hσ:cD σ tg=some (.list ad cap el size enc l)) (hi:i < l.length)
  (h:OG P r ops n p x Hs (dE σ tg (.list ad cap el size enc (l.take i++List.replicate (l.length - i) z0))) L rest):OG P r ops n p x Hs σ L (⟨none,.call ⟨.builtin .clear,#[y],#[t]⟩,ty,pos,af,none⟩::rest):=fun a w hS hA=>by
 have hrow:=hS.get hσ;have hpos:=hE.pos;rcases hrow.2 with ⟨e0,h0⟩ | ⟨b,cap',cur,hv,hbb,hw,hnc,hcm,hcs,ht⟩
 ·omega
 simp only [Value.slice.injEq] at hv;obtain ⟨rfl,_,rfl⟩:=hv;have hsub:iN size cap i (some ⟨b,0,none⟩)=some ⟨b,i*size,none⟩:=by
  unfold iN;rw [if_neg (by omega)];simp only [Option.map_some,dR (ad:=(⟨b,0,none⟩:Addr)) rfl,Nat.zero_add]
 rw [hsub] at hy;have hni:l.length - i≠0:=by omega
 have hzl:(enc z0).length=size:=he z0;have hzr:(Builtin.zeroCells zv.cells (l.length - i)).toList=(List.replicate (l.length - i) (enc z0)).flatten:=by
  rw [fD,hzc];exact rD (by omega)
 have hzlen:((List.replicate (l.length - i) (enc z0)).flatten).length=(l.length - i)*size:=by simp [hzl]
 have hmul:i*size+(l.length - i)*size=l.length*size:=by rw [← Nat.add_mul];congr 1;omega
 have hle:l.length*size≤cap*size:=Nat.mul_le_mul_right _ hnc
 have hst:=run_storeCells_at P b (i*size) el ((List.replicate (l.length - i) (enc z0)).flatten) 0 cur w hw (by rw [hzlen,hcs];omega) (fun v hv=>by
  obtain ⟨q,hq,hv⟩:=List.mem_flatten.1 hv;rw [List.eq_of_mem_replicate hq] at hv
  exact List.all_eq_true.1 ho v hv)
 simp only [Nat.add_zero] at hst;have hrun:(Builtin.clear_ #[t] ty #[.slice (some ⟨b,i*size,none⟩) (l.length - i) (cap - i)]).run P w=.ok (.tuple #[]) (w.setRow b (cur.toList.take (i*size)++(List.replicate (l.length - i) (enc z0)).flatten++cur.toList.drop (i*size+((List.replicate (l.length - i) (enc z0)).flatten).length)).toArray):=by
  obtain ⟨m,hm⟩:∃ m,l.length - i=m+1:=⟨l.length - i - 1,by omega⟩;rw [hm] at hzr hst ⊢;simp [Builtin.clear_,run_underlying hE.desc,hzv,hzr,hst]
 generalize hW:w.setRow b (cur.toList.take (i*size)++(List.replicate (l.length - i) (enc z0)).flatten++cur.toList.drop (i*size+((List.replicate (l.length - i) (enc z0)).flatten).length)).toArray=W' at hrun;refine cW rfl (fun _ h=>by cases h) (v:=.tuple #[]) (w':=W') (by simp [execOp,resolve,invoke,builtin,hA.eval hy,hrun]) ?_;subst hW;refine h _ _ (hS.step hσ ?_ ?_ (fun b' hb'=>.inl hb')) (by simpa [Act.put] using hA)
 ·refine ⟨⟨rfl,rfl,rfl,?_,fun k hk hne=>setRow_other _ _ _ _ (fun e=>hne (by rw [e];rfl))⟩,Nat.le_refl _⟩;simp [World.setRow]
 have hll:(l.take i++List.replicate (l.length - i) z0).length=l.length:=by simp;omega
 unfold aJ.list;rw [hll];refine ⟨by rw [hZ he,hll],.inr ⟨b,cap,_,rfl,hbb,setRow_heap w b cur _ el (0,0) hw,hnc,hcm,?_,?_⟩⟩
 ·simp only [List.size_toArray,List.length_append,List.length_take,List.length_drop,Array.length_toList,hzlen,hcs];omega
 rw [hzlen,hmul,List.toList_toArray];have hfl:(l.take i++List.replicate (l.length - i) z0).flatMap enc=cur.toList.take (i*size)++(List.replicate (l.length - i) (enc z0)).flatten:=by
  rw [List.flatMap_append,← kU he,← ht,List.take_take,Nat.min_eq_left (by omega)];congr 1;rw [List.flatMap_def,List.map_replicate]
 rw [hfl,List.take_append_of_le_length (by simp only [List.length_append,List.length_take,Array.length_toList,hzlen,hcs];omega),List.take_of_length_le (by simp only [List.length_append,List.length_take,Array.length_toList,hzlen,hcs];omega)]
end
end Pk
namespace Pk
open Go Go.Proofs
section
variable {P:Program} {n:aU} {p:List PanicEntry→aU} {ops:Array Oper} {rest:List Oper} {dst:Option Nat} {ty:TypeId} {pos:String} {af:Array Edge} {x:Fr} {Hs:List Hp} {σ:aS} {L:bU} {r:Option Nat}
theorem UE {y:Operand} {xs:List Operand} {ats:Array TypeId} {f:FuncId} {fnc:Func} {cd:Code} {nt:Nat} {first cap:List Value} {vs args:List Value} (hcall:∀ args w,(callFunc f args).run P w=.ok (.enter f args) w) (hfn:P.funcs[f]?=some fnc) (hb:fnc.body=some cd) (hn:fnc.ntmps=nt) (hf:ev L y=some (.func (.func f) first.toArray cap.toArray)) (hxs:mX L xs=some vs) (hargs:first++vs++cap=args) (hl:Nat.ble args.length nt=true) (J:Value→World→Prop)
  (h1:TG ⟨[],nt,x.M,x.w0,x.H0⟩ Hs σ (fZ 0 args) (W P none cd (fun _ _=>False) (KJ P fnc fun e w=>∃ v,e=.returned v∧J v w) [] (OL P fnc fun e w=>∃ v,e=.returned v∧J v w)))
  (h2:∀ a w v,aV x.D x.k a L→J v w→O P r ops n p rest (a.put dst v) w):OG P r ops n p x Hs σ L (⟨dst,.call ⟨.value y,xs.toArray,ats⟩,ty,pos,af,none⟩::rest):=fun c w hS hA=>by
 subst hargs;have hcs:Calls P f (first++vs++cap).toArray w (fun e w=>∃ v,e=.returned v∧J v w):=KK hfn hb hn hl fun a hA'=>h1 a w hS hA';refine iL rfl (fun _ h=>by cases h) (gA hA hf hxs hcall) (by simpa using hcs) ?_ ?_ ?_
 ·rintro v w' ⟨u,hu,hJ⟩;cases hu;exact h2 c w' v hA hJ
 ·rintro ch w' ⟨u,hu,_⟩;cases hu
 rintro w' ⟨u,hu,_⟩;cases hu
theorem tV {y:Operand} {xs:List Operand} {ats:Array TypeId} {f:FuncId} {fnc:Func} {cd:Code} {nt:Nat} {first cap:List Value} {vs args:List Value} (hcall:∀ args w,(callFunc f args).run P w=.ok (.enter f args) w) (hfn:P.funcs[f]?=some fnc) (hb:fnc.body=some cd) (hn:fnc.ntmps=nt) (hf:ev L y=some (.func (.func f) first.toArray cap.toArray)) (hxs:mX L xs=some vs) (hargs:first++vs++cap=args) (hl:Nat.ble args.length nt=true) (J:Value→World→Prop)
  (h1:TG ⟨[],nt,x.M,x.w0,x.H0⟩ Hs σ (fZ 0 args) (W P none cd (Rt P fnc fun e w=>∃ v,e=.returned v∧J v w) (Rt P fnc fun e w=>∃ v,e=.returned v∧J v w) [] (fun ch a w=>a.defers=[]∧∀ a,aV x.D x.k a L→p ch a w)))
  (h2:∀ a w v,aV x.D x.k a L→J v w→O P r ops n p rest (a.put dst v) w):OG P r ops n p x Hs σ L (⟨dst,.call ⟨.value y,xs.toArray,ats⟩,ty,pos,af,none⟩::rest) :=
 UC hcall hfn hb hn hf hxs hargs hl J (fun e w=>∀ ch a,e=.panicked ch→aV x.D x.k a L→p ch a w) (fun ch a w hA h=>h ch a rfl hA)
  (fun a w hS hA=>lL (fun _ _ h=>h) (fun _ _ h=>h) (fun _ K _ _ hK h=>⟨K,hK,h⟩) (fun ch _ _ h=>⟨h.1,fun ch' a' e hA'=>by cases e;exact h.2 a' hA'⟩) (h1 a w hS hA)) h2
theorem mK {M:Prop} {w0:World} {H0:Hp} {D D':List Deferred} {k nt:Nat} {L':bU} {q:aU} (hD:D'=[]) (h:TG ⟨D,k,M,w0,H0⟩ Hs σ L q):TG ⟨D',nt,M,w0,H0⟩ Hs σ L' (fun a w=>a.defers=[]∧∀ a,aV D k a L→q a w):=fun a w hS hA=>⟨by rw [hA.defers];exact hD,fun a' hA'=>h a' w hS hA'⟩
end
end Pk
namespace Pk
open Go Go.Proofs
section
variable {P:Program} {a:Act} {w:World} {k:Nat} {L:bU}
theorem rc4 {f:Func} {R:Ending→World→Prop} {x y s t:ResultVar} {v z u o':Value} (hA:aV [] k a L) (hr:f.results = #[x,y,s,t]) (hx:bM P w L x v) (hy:bM P w L y z) (hs:bM P w L s u) (ht:bM P w L t o') (h:R (.returned (.tuple #[v,z,u,o'])) w):Rt P f R a w:=by
 refine ⟨hA.defers,_,iO (xs:=[x,y,s,t]) (vs:=[v,z,u,o']) hr _ ?_ rfl,h⟩;intro i q o h1 h2
 match i with
 | 0=>simp at h1 h2;subst h1;subst h2;exact hx.run hA
 | 1=>simp at h1 h2;subst h1;subst h2;exact hy.run hA
 | 2=>simp at h1 h2;subst h1;subst h2;exact hs.run hA
 | 3=>simp at h1 h2;subst h1;subst h2;exact ht.run hA
 | i+4=>simp at h1
end
end Pk
namespace Pk
open Go Go.Proofs
section
variable {P:Program} {r:Option Nat} {n:aU} {p:List PanicEntry→aU} {ops:Array Oper} {rest:List Oper} {d:Nat} {ty:TypeId} {pos:String} {af:Array Edge} {x:Fr} {Hs:List Hp} {σ:aS} {L:bU}
theorem UF {α:Type} {enc:α→List Value} {m:List α} {H:Hp} {t el:TypeId} {s y:Operand} {z:List Value} {size bytes:Nat} {sad:Option Addr} {mm c:Nat} (he:cG P t el z size bytes) (hd:Nat.blt d x.k=true) (hs:ev L s=some (.slice none 0 0)) (hx:ev L y=some (.slice sad mm c)) (hmm:mm=m.length) (hm:Sl (aE enc) size H sad c m) (i:Nat) (hi:Hs[i]?=some H) (hl:∀ x,(enc x).length=size) (ho:∀ x,(enc x).all (·.oneCell')=true) (hby:Nat.ble bytes 131072=true) (h0:m.length≤1073741824)
  (h:∀ ad' cap' K,Sl (aE enc) size K ad' cap' m→OG P r ops n p x (K::Hs) σ ((d,.slice ad' m.length cap')::L) rest):OG P r ops n p x Hs σ L (⟨some d,.call ⟨.builtin .append,#[s,y],#[t,t]⟩,ty,pos,af,none⟩::rest) :=
 TG.nilRow 0 el size (TG.as 0 (z:=aJ.list none 0 el size enc ([]:List α)) (by simp [cD]) rfl
  (wM 0 (enc:=enc) (l:=([]:List α)) (m:=m) he hd hs (by simp [cD,dE]) rfl hx hmm hm i hi hl ho hby (by simpa using h0) fun ad' cap' =>
   TG.still (enc:=enc) (ad:=ad') (cap:=cap') (el:=el) (l:=[]++m) 0 (by simp [cD,dE]) hl fun K hK=>TG.eq (σ':=σ) (by simp [dE,eX]) (by simpa using h ad' cap' K (by simpa using hK))))
theorem vE {α:Type} {R:Hp→List Value→α→Prop} {size:Nat} {K:Hp}:∀ {css:List (List Value)} {l:List α},Rows R size K css l→css.flatten.all (·.oneCell')=true∧css.flatten.length=l.length*size
 | [],[],_=>⟨rfl,by simp⟩
 | cs::css,x::l,h=>by
  obtain ⟨h1,h2⟩:=vE h.2;refine ⟨by rw [List.flatten_cons,List.all_append,h.1.2.1,h1];rfl,?_⟩;rw [List.flatten_cons,List.length_append,h2,h.1.1,List.length_cons,Nat.add_mul];omega
theorem UG (tg:Nat) {α:Type} {R:Hp→List Value→α→Prop} {l:List α} {css:List (List Value)} {K:Hp} {t el:TypeId} {s y:Operand} {z:List Value} {size bytes:Nat} {ad:Option Addr} {cap nn:Nat} (he:cG P t el z size bytes) (hd:Nat.blt d x.k=true) (hs:ev L s=some (.slice none 0 0)) (hσ:cD σ tg=some (.rows ad cap el size css l)) (hn:nn=l.length) (hx:ev L y=some (.slice ad nn cap)) (i:Nat) (hK:Hs[i]?=some K) (hm:jT R) (hR:Rows R size K css l) (hby:Nat.ble bytes 131072=true) (h3:l.length≤1073741824)
  (h:∀ ad' cap' K',Sl R size K' ad' cap' l→OG P r ops n p x (K'::Hs) σ ((d,.slice ad' l.length cap')::L) rest):OG P r ops n p x Hs σ L (⟨some d,.call ⟨.builtin .append,#[s,y],#[t,t]⟩,ty,pos,af,none⟩::rest):=fun a w hS hA=>by
 subst hn;have hrow:=hS.get hσ;obtain ⟨h1,h2⟩:=vE hR;have hS0:=hS.nilRow 0 el size;have fin:∀ ad' cap' w' a',St x.M x.w0 x.H0 Hs ((0,.rows ad' cap' el size css l)::σ) w'→aV x.D x.k a' ((d,.slice ad' l.length cap')::L)→O P r ops n p rest a' w':=fun ad' cap' w' a' hS1 hA1=>by
  obtain ⟨K',hS2,hl⟩:=hS1.rowsRest (ad:=ad') (cap:=cap') (el:=el) (css:=css) (l:=l) 0 (by simp [cD]) i hK hm hR;have e:eX ((0,aJ.rows ad' cap' el size css l)::σ) 0=σ:=by simp [eX]
  rw [e] at hS2;exact h ad' cap' K' hl a' w' hS2 hA1
 rcases Nat.eq_zero_or_pos l.length with h0 | hpos
 ·have hl0:l=[]:=List.eq_nil_of_length_eq_zero h0;subst hl0;have hc0:css=[]:=by cases css with | nil=>rfl | cons _ _=>exact hR.elim
  subst hc0;obtain ⟨i',v,hi,_,_,hsz,_⟩:=he.info;have hrun:(Builtin.append_ #[t,t] ty #[.slice none 0 0,.slice ad 0 cap]).run P w=.ok (.slice none 0 0) w:=by
   cases ad <;> simp [Builtin.append_,run_underlying he.desc,Go.sizeOf,typeInfo,hi,Builtin.lenOf,Builtin.firstCells,loadCells,loadCellsFrom]
  refine cW rfl (fun _ h=>by cases h) (w':=w) (v:=.slice none 0 0) (by simp [execOp,resolve,invoke,builtin,hA.eval hs,hA.eval hx,hrun]) ?_;exact fin none 0 w _ (by simpa [aJ.rows] using hS0) (hA.put hd _)
 rcases hrow.2 with ⟨e0,h0⟩ | ⟨b,cap',cur,hv,hbb,hw,hnc,hcm,hcs,ht⟩
 ·omega
 simp only [Value.slice.injEq] at hv;obtain ⟨rfl,_,rfl⟩:=hv;refine mH 0 (xs:=[]) (m:=l.length) (c:=cap) (news:=css.flatten) hA hd hS0 he hs (by simp [cD]) hx ⟨h2,h1,.inr ⟨_,rfl,rfl,fun j v hj=>?_⟩⟩ (by omega) hby fun ad' cap' w' hS1 a hA1=>?_
 ·refine ⟨cur,el,(0,0),hw,?_⟩;rw [← ht,List.getElem?_take] at hj
  split at hj
  ·simpa using hj
  cases hj
 refine fin ad' cap' w' a ?_ (by simpa using hA1);simpa [dE,aJ.rows] using hS1
end
end Pk
namespace Pk
open Go
section
variable {α σ ε τ:Type}
def BQ (g:Nat→α→σ→σ⊕ε) (out:σ→ε):List α→Nat→σ→ε
 | [],_,a=>out a
 | x::l,i,a=>match g i x a with
  | .inl a'=>BQ g out l (i+1) a'
  | .inr e=>e
theorem GQ (g:Nat→α→σ→σ⊕ε) (out:σ→ε) (i:Nat) (a:σ):BQ g out [] i a=out a:=rfl
theorem BS (g:Nat→α→σ→σ⊕ε) (out:σ→ε) (x:α) (l:List α) (i:Nat) (a:σ):BQ g out (x::l) i a=(match g i x a with | .inl a'=>BQ g out l (i+1) a' | .inr e=>e):=rfl
theorem tW (l:List α) (g:Nat→α→σ→σ⊕ε) (out:σ→ε) (I:Nat→σ→Prop) {step:Nat×σ→Option ((Nat×σ)⊕ε)}
  (hs:∀ i x a,i < l.length→l[i]?=some x→I i a→step (i,a)=some (match g i x a with | .inl a'=>.inl (i+1,a') | .inr e=>.inr e))
  (hI:∀ i x a a',i < l.length→l[i]?=some x→I i a→g i x a=.inl a'→I (i+1) a')
  (he:∀ a,I l.length a→step (l.length,a)=some (.inr (out a))) {a0:σ} (h0:I 0 a0):aO step (0,a0)=some (BQ g out l 0 a0):=by
 have key:∀ k i a,l.length - i=k→i≤l.length→I i a→aO step (i,a)=some (BQ g out (l.drop i) i a):=by
  intro k
  induction k with
  | zero =>
   intro i a hk hi hIa;obtain rfl:i=l.length:=by omega
   rw [bX (he a hIa),List.drop_length,GQ]
  | succ k ih =>
   intro i a hk hi hIa;have hlt:i < l.length:=by omega
   have hx:l[i]?=some l[i]:=List.getElem?_eq_getElem hlt;rw [List.drop_eq_getElem_cons hlt,BS];have h1:=hs i _ a hlt hx hIa
   cases hg:g i l[i] a with
   | inl a' =>
    rw [hg] at h1;rw [cB h1,ih (i+1) a' (by omega) (by omega) (hI i _ a a' hlt hx hIa hg)]
   | inr e =>
    rw [hg] at h1;rw [bX h1]
 have:=key l.length 0 a0 (by omega) (by omega) h0;simpa using this
def yC (g:Nat→α→Option ε) (out:ε):List α→Nat→ε
 | [],_=>out
 | x::l,i=>match g i x with
  | none=>yC g out l (i+1)
  | some e=>e
theorem pW (l:List α) (g:Nat→α→Option ε) (out:ε) {step:Nat→Option (Nat⊕ε)}
  (hs:∀ i x,i < l.length→l[i]?=some x→step i=some (match g i x with | none=>.inl (i+1) | some e=>.inr e))
  (he:step l.length=some (.inr out)):aO step 0=some (yC g out l 0):=by
 have key:∀ k i,l.length - i=k→i≤l.length→aO step i=some (yC g out (l.drop i) i):=by
  intro k
  induction k with
  | zero =>
   intro i hk hi;obtain rfl:i=l.length:=by omega
   rw [bX he,List.drop_length];rfl
  | succ k ih =>
   intro i hk hi;have hlt:i < l.length:=by omega
   have hx:l[i]?=some l[i]:=List.getElem?_eq_getElem hlt;rw [List.drop_eq_getElem_cons hlt];have h1:=hs i _ hlt hx;simp only [yC]
   cases hg:g i l[i] with
   | none=>rw [hg] at h1;rw [cB h1,ih (i+1) (by omega) (by omega)]
   | some e=>rw [hg] at h1;rw [bX h1]
 have:=key l.length 0 (by omega) (by omega);simpa using this
theorem yD (p:α→Bool) (e out:ε):∀ (l:List α) (i:Nat),yC (fun _ x=>if p x then none else some e) out l i=if l.all p then out else e
 | [],_=>rfl
 | x::l,i=>by
  have ih:=yD p e out l (i+1);simp only [yC,List.all_cons] at ih ⊢;by_cases h:p x=true
  ·simp only [h,if_true,ih,Bool.true_and]
  simp [h]
theorem vF (f:σ→α→σ) (out:σ→ε):∀ (l:List α) (i:Nat) (a:σ),BQ (fun _ x a=>.inl (f a x)) out l i a=out (l.foldl f a)
 | [],_,_=>rfl
 | x::l,i,a=>by simp only [BQ,List.foldl_cons];exact vF f out l (i+1) (f a x)
theorem iB (l:List α) (p:α→Bool) (e out:ε) {step:Nat→Option (Nat⊕ε)}
  (hs:∀ i x,i < l.length→l[i]?=some x→step i=some (if p x then .inl (i+1) else .inr e)) (he:step l.length=some (.inr out)):aO step 0=some (if l.all p then out else e):=by
 rw [pW l (fun _ x=>if p x then none else some e) out (fun i x hi hx=>by rw [hs i x hi hx];cases p x <;> simp) he,yD]
theorem jD (l:List α) (f:σ→α→σ) (out:σ→ε) (I:Nat→σ→Prop) {step:Nat×σ→Option ((Nat×σ)⊕ε)}
  (hs:∀ i x a,i < l.length→l[i]?=some x→I i a→step (i,a)=some (.inl (i+1,f a x)))
  (hI:∀ i x a,i < l.length→l[i]?=some x→I i a→I (i+1) (f a x))
  (he:∀ a,I l.length a→step (l.length,a)=some (.inr (out a))) {a0:σ} (h0:I 0 a0):aO step (0,a0)=some (out (l.foldl f a0)):=by
 rw [tW l (fun _ x a=>.inl (f a x)) out I (fun i x a hi hx h=>hs i x a hi hx h) (fun i x a a' hi hx h e=>by cases e;exact hI i x a hi hx h) he h0,vF]
theorem pX (f:α→τ):∀ (l:List α) (a:List τ),l.foldl (fun a x=>a++[f x]) a=a++l.map f
 | [],a=>by simp
 | x::l,a=>by simp [pX f l]
theorem fA (l:List α) (F:α→τ) (out:List τ→ε) {step:Nat×List τ→Option ((Nat×List τ)⊕ε)}
  (hs:∀ i x a,i < l.length→l[i]?=some x→a.length=i→step (i,a)=some (.inl (i+1,a++[F x])))
  (he:∀ a,step (l.length,a)=some (.inr (out a))):aO step (0,[])=some (out (l.map F)):=by
 rw [jD l (fun a x=>a++[F x]) out (fun i a=>a.length=i) hs (fun i x a _ _ h=>by simp [h]) (fun a _=>he a) rfl,pX];rfl
theorem kV (l:List α) (k:Nat) (p:α→Bool) (e out:ε) {step:Nat→Option (Nat⊕ε)}
  (hs:∀ i x,i < l.length→i < k→l[i]?=some x→step i=some (if p x then .inl (i+1) else .inr e)) (he:∀ i,¬(i < l.length∧i < k)→step i=some (.inr out)):aO step 0=some (if (l.take k).all p then out else e):=by
 refine iB (l.take k) p e out (fun i x hi hx=>?_) (he _ (by rw [List.length_take];omega));rw [List.length_take] at hi;exact hs i x (by omega) (by omega) (by rw [List.getElem?_take_of_lt (by omega)] at hx;exact hx)
theorem bA {p:Prop} (h:p) (x:Option α):cE p x=x:=GF h x
theorem GR (x:Option α):(x.bind fun r=>some r)=x:=by cases x <;> rfl
end
end Pk
namespace Pk
open Go
section
variable {α β:Type}
noncomputable def yE (l:List α) (f:α→Option Bool) (s:Nat):Option (Nat⊕(Unit⊕Int)) :=
 if (s:Int) < (l.length:Int) then (l[s]?).bind fun x=>(f x).bind fun r=>if r then some (.inr (.inr (s:Int))) else some (.inl (s+1)) else some (.inr (.inl ()))
noncomputable def GS (l:List α) (f:α→Option Bool):Option Int:=(aO (yE l f) 0).bind fun e=>match e with
 | .inr z=>some z
 | .inl _=>some (-1)
noncomputable def BT (l:List α) (f:α→Option Bool):Option Bool:=(GS l f).bind fun r=>some (decide (0≤r))
noncomputable def pY (l:List α) (f:α→Option Bool):Option Bool:=(BT l (fun x=>(f x).bind fun r=>some (!r))).bind fun r=>some (!r)
theorem pD (p:α→Bool):∀ (l:List α) (i:Nat),yC (ε:=Unit⊕Int) (fun j x=>if p x then some (.inr (j:Int)) else none) (.inl ()) l i=if l.any p then .inr ((i:Int)+(l.findIdx p:Nat)) else .inl ()
 | [],_=>rfl
 | x::l,i=>by
  have ih:=pD p l (i+1);simp only [yC];by_cases h:p x=true
  ·simp [h,List.findIdx_cons]
  simp only [h,if_false,ih,List.any_cons,List.findIdx_cons,Bool.false_eq_true];simp only [Bool.not_eq_true] at h;simp only [Bool.false_or,cond_false];by_cases h2:l.any p=true
  ·simp only [h2,if_true];congr 1;omega
  simp [h2]
theorem rY {l:List α} {f:α→Option Bool} (p:α→Bool) (h:∀ x∈l,f x=some (p x)):GS l f=some (if l.any p then ((l.findIdx p:Nat):Int) else -1):=by
 unfold GS;have hl:aO (yE l f) 0=some (yC (ε:=Unit⊕Int) (fun j x=>if p x then some (.inr (j:Int)) else none) (.inl ()) l 0):=by
  refine pW (ε:=Unit⊕Int) l (fun j x=>if p x then some (.inr (j:Int)) else none) (.inl ()) (fun i x hi hx=>?_) ?_
  ·unfold yE;rw [if_pos (by omega),hx,Option.bind_some,h x (List.mem_of_getElem? hx)];cases p x <;> rfl
  unfold yE;simp
 rw [hl,pD];by_cases h:l.any p=true
 ·simp only [h,if_true,Option.bind_some];congr 1;omega
 simp [h]
theorem nJ {l:List α} {f:α→Option Bool} (p:α→Bool) (h:∀ x∈l,f x=some (p x)):BT l f=some (l.any p):=by
 unfold BT;rw [rY p h];by_cases h2:l.any p=true
 ·simp only [h2,if_true,Option.bind_some];simp
 simp only [h2];simp
theorem eF {l:List α} {f:α→Option Bool} (p:α→Bool) (h:∀ x∈l,f x=some (p x)):pY l f=some (l.all p):=by
 unfold pY;rw [nJ (fun x=>!p x) (fun x hx=>by rw [h x hx];rfl),Option.bind_some];congr 1
 induction l with
 | nil=>rfl
 | cons x l ih=>simp only [List.any_cons,List.all_cons,Bool.not_or,Bool.not_not];rw [ih (fun y hy=>h y (List.mem_cons_of_mem _ hy))]
noncomputable def GT [DecidableEq α] (l:List α) (v:α) (s:Nat):Option (Nat⊕(Unit⊕Int)) :=
 if (s:Int) < (l.length:Int) then (l[s]?).bind fun x=>if v=x then some (.inr (.inr (s:Int))) else some (.inl (s+1)) else some (.inr (.inl ()))
noncomputable def UH [DecidableEq α] (l:List α) (v:α):Option Int:=(aO (GT l v) 0).bind fun e=>match e with
 | .inr z=>some z
 | .inl _=>some (-1)
noncomputable def GU [DecidableEq α] (l:List α) (v:α):Option Bool:=(UH l v).bind fun r=>some (decide (0≤r))
theorem BU [DecidableEq α] (l:List α) (v:α):UH l v=some (if v∈l then ((l.findIdx (fun x=>decide (v=x)):Nat):Int) else -1):=by
 unfold UH;have hl:aO (GT l v) 0=some (yC (ε:=Unit⊕Int) (fun j x=>if decide (v=x) then some (.inr (j:Int)) else none) (.inl ()) l 0):=by
  refine pW (ε:=Unit⊕Int) l (fun j x=>if decide (v=x) then some (.inr (j:Int)) else none) (.inl ()) (fun i x hi hx=>?_) ?_
  ·unfold GT;rw [if_pos (by omega),hx,Option.bind_some];by_cases h:v=x <;> simp [h]
  unfold GT;simp
 rw [hl,pD];have:l.any (fun x=>decide (v=x))=decide (v∈l):=by
  rw [Bool.eq_iff_iff];simp
 rw [this];by_cases h:v∈l <;> simp [h]
theorem nK [DecidableEq α] (l:List α) (v:α):GU l v=some (decide (v∈l)):=by
 unfold GU;rw [BU];by_cases h:v∈l <;> simp [h]
noncomputable def GV (a:List α) (b:List β) (f:α→β→Option Bool) (s:Nat):Option (Nat⊕(Unit⊕Bool)) :=
 if (s:Int) < (a.length:Int) then (a[s]?).bind fun x=>(b[s]?).bind fun y=>(f x y).bind fun r=>if r then some (.inl (s+1)) else some (.inr (.inr false)) else some (.inr (.inl ()))
noncomputable def KM (a:List α) (b:List β) (f:α→β→Option Bool):Option Bool :=
 if (a.length:Int)≠(b.length:Int) then some false else (aO (GV a b f) 0).bind fun e=>match e with
 | .inr z=>some z
 | .inl _=>some true
def BV (p:α→β→Bool):List α→List β→Bool
 | [],[]=>true
 | x::a,y::b=>p x y&&BV p a b
 | _,_=>false
theorem yF (p:α→β→Bool):∀ (a:List α) (b:List β),a.length=b.length→BV p a b=(a.zip b).all (fun q=>p q.1 q.2)
 | [],[],_=>rfl
 | x::a,y::b,h=>by simp only [BV,List.zip_cons_cons,List.all_cons];rw [yF p a b (by simpa using h)]
 | [],y::b,h=>by simp at h
 | x::a,[],h=>by simp at h
theorem yG (p:α→β→Bool):∀ (a:List α) (b:List β),BV p a b=true→a.length=b.length
 | [],[],_=>rfl
 | x::a,y::b,h=>by simp only [BV,Bool.and_eq_true] at h;simp [yG p a b h.2]
 | [],y::b,h=>by simp [BV] at h
 | x::a,[],h=>by simp [BV] at h
theorem zN {a:List α} {b:List β} {f:α→β→Option Bool} (p:α→β→Bool) (h:∀ x∈a,∀ y∈b,f x y=some (p x y)):KM a b f=some (BV p a b):=by
 unfold KM;by_cases hl:a.length=b.length
 ·rw [if_neg (by omega)];have h1:aO (GV a b f) 0=some (if (a.zip b).all (fun q=>p q.1 q.2) then .inl () else .inr false):=by
   refine iB (a.zip b) _ _ _ (fun i x hi hx=>?_) ?_
   ·rw [List.length_zip] at hi;rw [List.getElem?_zip_eq_some] at hx;unfold GV;rw [if_pos (by omega),hx.1,Option.bind_some,hx.2,Option.bind_some,h _ (List.mem_of_getElem? hx.1) _ (List.mem_of_getElem? hx.2)];cases p x.1 x.2 <;> rfl
   rw [List.length_zip];unfold GV;rw [if_neg (by omega)]
  rw [h1,yF p a b hl];by_cases e:(a.zip b).all (fun q=>p q.1 q.2)=true <;> simp [e]
 rw [if_pos (by omega)];have:BV p a b=false:=by
  rw [← Bool.not_eq_true];exact fun e=>hl (yG p a b e)
 rw [this]
end
end Pk
namespace Pk
open Go Go.Lib
def rE (c:UInt8):Bool:=decide (48≤c.toNat∧c.toNat≤57)
def gK (l:aD) (a:Nat):Nat:=l.foldl (fun a c=>10*a+(c.toNat - 48)) a
theorem oD (l m:aD) (a:Nat):gK (l++m) a=gK m (gK l a):=by simp [gK]
theorem pZ:∀ (l:aD) (a:Nat),decFrom a l=if l.all rE then some (gK l a) else none
 | [],a=>rfl
 | c::l,a=>by
  have ih:=fun b=>pZ l b;simp only [decFrom,List.all_cons,gK,List.foldl_cons] at ih ⊢;unfold digitVal;by_cases h:rE c=true
  ·have h':=h;simp only [rE,decide_eq_true_eq] at h';simp only [h',and_self,if_true,h,Bool.true_and];rw [show a*10+(c.toNat - 48)=10*a+(c.toNat - 48) by omega];exact ih _
  have h':=h;simp only [rE,decide_eq_true_eq] at h';simp [h',h]
theorem vG {n:Nat} (h:n < 256):(UInt8.ofNat n).toNat=n:=by simp;omega
theorem BW {n:Nat} (h:n < 10):rE (UInt8.ofNat (48+n))=true:=by
 unfold rE;rw [vG (by omega)];simp;omega
theorem yH (u:Nat):(decDigits u).all rE=true:=by
 induction u using Nat.strongRecOn with
 | _ u ih =>
  rw [decDigits]
  split
  ·simp only [List.all_cons,List.all_nil,Bool.and_true];exact BW ‹_›
  rw [List.all_append,ih (u/10) (by omega)];simp only [List.all_cons,List.all_nil,Bool.and_true,Bool.true_and];exact BW (show u%10 < 10 by omega)
theorem yI (u:Nat):gK (decDigits u) 0=u:=by
 induction u using Nat.strongRecOn with
 | _ u ih =>
  rw [decDigits]
  split
  ·simp only [gK,List.foldl_cons,List.foldl_nil];rw [vG (by omega)];omega
  rw [oD,ih (u/10) (by omega)];simp only [gK,List.foldl_cons,List.foldl_nil];rw [vG (by omega)];omega
theorem wX (u:Nat):decDigits u≠[]:=by
 rw [decDigits];split <;> simp
theorem yJ {u k:Nat} (h:u < 10 ^ k) (hk:1≤k):(decDigits u).length≤k:=by
 induction k generalizing u with
 | zero=>omega
 | succ k ih =>
  rw [decDigits]
  split
  ·simp
  rw [List.length_append];have h1:u/10 < 10 ^ k:=by rw [Nat.pow_succ] at h;omega
  have hk1:1≤k:=by
   rcases k with _ | k
   ·simp at h1;omega
   omega
  have:=ih h1 hk1;simp;omega
theorem BX {u:Nat} (h:1≤u):(decDigits u).head?≠some 48:=by
 induction u using Nat.strongRecOn with
 | _ u ih =>
  rw [decDigits]
  split
  ·simp only [List.head?_cons,ne_eq,Option.some.injEq];intro e;have:=congrArg UInt8.toNat e;rw [vG (by omega)] at this;have:(48:UInt8).toNat=48:=rfl;omega
  rw [List.head?_append];have:=ih (u/10) (by omega) (by omega)
  cases hd:(decDigits (u/10)).head? with
  | none=>rw [List.head?_eq_none_iff] at hd;exact absurd hd (wX _)
  | some c=>rw [hd] at this;simpa using this
theorem yK {c:UInt8} (h:rE c=true):UInt8.ofNat (48+(c.toNat - 48))=c:=by
 simp only [rE,decide_eq_true_eq] at h;apply UInt8.toNat_inj.1;rw [vG (by omega)];omega
theorem yL:∀ (l:aD) (a:Nat),l.all rE=true→gK l a < (a+1)*10 ^ l.length
 | [],a,_=>by simp [gK]
 | c::l,a,h=>by
  simp only [List.all_cons,Bool.and_eq_true] at h;have ih:=yL l (10*a+(c.toNat - 48)) h.2;have hc:=h.1;simp only [rE,decide_eq_true_eq] at hc;have:gK (c::l) a=gK l (10*a+(c.toNat - 48)):=rfl;rw [this,List.length_cons,Nat.pow_succ];refine Nat.lt_of_lt_of_le ih ?_;rw [Nat.mul_comm (10 ^ l.length) 10,← Nat.mul_assoc];exact Nat.mul_le_mul_right _ (by omega)
theorem BY (l:aD) (h0:l≠[]) (h:l.all rE=true) (hh:l.head?≠some 48):decDigits (gK l 0)=l∧1≤gK l 0:=by
 have key:∀ (n:Nat) (l:aD),l.length=n→l≠[]→l.all rE=true→l.head?≠some 48→decDigits (gK l 0)=l∧1≤gK l 0:=by
  intro n
  induction n with
  | zero=>intro l hn h0;exact absurd (List.length_eq_zero_iff.1 hn) h0
  | succ n ih =>
   intro l hn h0 h hh;obtain ⟨m,c,rfl⟩:∃ m c,l=m++[c]:=⟨l.dropLast,l.getLast h0,(List.dropLast_concat_getLast h0).symm⟩;rw [List.all_append,Bool.and_eq_true] at h;have hc:rE c=true:=by simpa using h.2
   have hc':=hc;simp only [rE,decide_eq_true_eq] at hc';have hv:gK (m++[c]) 0=10*gK m 0+(c.toNat - 48):=by rw [oD];rfl
   rw [hv];by_cases hm:m=[]
   ·subst hm;have hne:c≠48:=by simpa using hh
    have hne':c.toNat≠48:=fun e=>hne (UInt8.toNat_inj.1 (by rw [e];rfl));simp only [gK,List.foldl_nil,Nat.mul_zero,Nat.zero_add];refine ⟨?_,by omega⟩;rw [decDigits,dif_pos (by omega),yK hc];rfl
   have hmh:m.head?≠some 48:=by
    cases m with
    | nil=>exact absurd rfl hm
    | cons x m=>simpa using hh
   obtain ⟨h1,h2⟩:=ih m (by simp at hn;omega) hm h.1 hmh;refine ⟨?_,by omega⟩;rw [decDigits,dif_neg (by omega)];rw [show (10*gK m 0+(c.toNat - 48))/10=gK m 0 by omega,show (10*gK m 0+(c.toNat - 48))%10=c.toNat - 48 by omega,h1,yK hc]
 exact key l.length l rfl h0 h hh
theorem BZ {u:Nat} (h:u < 10 ^ 18):atoiAll (decDigits u)=.ok (u:Int):=by
 rw [atoiAll_short _ (yJ h (by decide))];have ha:=yH u;have hv:=yI u
 cases hd:decDigits u with
 | nil=>exact absurd hd (wX u)
 | cons c r =>
  rw [hd] at ha hv;have hc:rE c=true:=by simp only [List.all_cons,Bool.and_eq_true] at ha;exact ha.1
  simp only [rE,decide_eq_true_eq] at hc;have h0:(c==45)=false:=by
   rw [beq_eq_false_iff_ne];rintro rfl;simp at hc
  have h1:(c==43)=false:=by
   rw [beq_eq_false_iff_ne];rintro rfl;simp at hc
  simp only [atoi,h0,h1,decNat,List.isEmpty_cons,pZ,ha,hv];rfl
end Pk
namespace Pk
open Go
theorem CA {α:Type} {f:α→α→Option Int} (lt:α→α→Bool) {l l':List α} (hlen:l.length≤1073741824) (hf:∀ x∈l,∀ y∈l,∃ c,f x y=some c∧(c < 0↔lt x y=true)) (irr:∀ x∈l,lt x x=false)
    (tr:∀ x∈l,∀ y∈l,∀ z∈l,lt x y=true→lt y z=true→lt x z=true) (tot:∀ x∈l,∀ y∈l,x≠y→lt x y=true∨lt y x=true) (hp:l'.Perm l) (hs:l'.Pairwise (fun x y=>lt x y=true)):oC f l=some l':=by
  have hlt:∀ x∈l,∀ y∈l,oB f x y=lt x y:=fun x hx y hy=>by
    obtain ⟨c,h1,h2⟩:=hf x hx y hy;unfold oB;rw [h1]
    cases h:lt x y with
    | true=>simpa using h2.2 h
    | false => simp;by_cases hc:c < 0
               · rw [h2.1 hc] at h;cases h
               omega
  have hok:pU f l:=⟨hlen,fun x hx y hy=>(hf x hx y hy).imp fun _ h=>h.1,fun x hx=>by rw [hlt x hx x hx];exact irr x hx,
    fun x hx y hy z hz h1 h2=>by rw [hlt x hx y hy] at h1;rw [hlt y hy z hz] at h2;rw [hlt x hx z hz];exact tr x hx y hy z hz h1 h2,
    fun x hx y hy h1 h2=>by
      rw [hlt x hx y hy] at h1;rw [hlt y hy x hx] at h2;by_cases e:x=y
      · exact e
      rcases tot x hx y hy e with h | h
      · rw [h] at h1;cases h1
      rw [h] at h2;cases h2⟩
  unfold oC;rw [if_pos hok];congr 1;have hmap:(l.attach.mergeSort fun a b=>!oB f b.1 a.1).map (·.1)=l.mergeSort fun x y=>!oB f y x:=by
    rw [List.map_mergeSort (s:=fun x y=>!oB f y x) (fun a _ b _=>rfl)];congr 1;exact List.attach_map_subtype_val l
  have hpw:(l.attach.mergeSort fun a b=>!oB f b.1 a.1).Pairwise (fun a b=>(!oB f b.1 a.1)=true):=by
    refine List.pairwise_mergeSort (fun a b c h1 h2=>?_) (fun a b=>?_) _
    · simp only [Bool.not_eq_true'] at *;rw [hlt _ b.2 _ a.2] at h1;rw [hlt _ c.2 _ b.2] at h2;rw [hlt _ c.2 _ a.2]
      cases h3:lt c.1 a.1 with
      | false=>rfl
      | true =>
        exfalso;by_cases e:b.1=a.1
        · rw [e] at h2;rw [h2] at h3;cases h3
        rcases tot _ b.2 _ a.2 e with h | h
        · rw [h] at h1;cases h1
        rw [tr _ c.2 _ a.2 _ b.2 h3 h] at h2;cases h2
    simp only [Bool.or_eq_true,Bool.not_eq_true'];rw [hlt _ b.2 _ a.2,hlt _ a.2 _ b.2]
    cases h3:lt b.1 a.1 with
    | false=>exact .inl rfl
    | true =>
      right
      cases h4:lt a.1 b.1 with
      | false=>rfl
      | true=>have:=tr _ a.2 _ b.2 _ a.2 h4 h3;rw [irr _ a.2] at this;cases this
  have hpw':(l.mergeSort fun x y=>!oB f y x).Pairwise (fun x y=>(!oB f y x)=true):=by
    rw [← hmap,List.pairwise_map];exact hpw
  refine List.Perm.eq_of_pairwise (le:=fun x y=>(!oB f y x)=true) ?_ hpw' ?_ ((List.mergeSort_perm _ _).trans hp.symm)
  · intro x y hx hy h1 h2;have hx':x∈l:=(List.mergeSort_perm _ _).subset hx;have hy':y∈l:=hp.subset hy;simp only [Bool.not_eq_true'] at h1 h2;rw [hlt _ hy' _ hx'] at h1;rw [hlt _ hx' _ hy'] at h2;by_cases e:x=y
    · exact e
    rcases tot _ hx' _ hy' e with h | h
    · rw [h] at h2;cases h2
    rw [h] at h1;cases h1
  refine hs.imp_of_mem fun {x y} hx hy h=>?_;simp only [Bool.not_eq_true'];rw [hlt _ (hp.subset hy) _ (hp.subset hx)]
  cases h3:lt y x with
  | false=>rfl
  | true=>have:=tr _ (hp.subset hx) _ (hp.subset hy) _ (hp.subset hx) h h3;rw [irr _ (hp.subset hx)] at this;cases this
end Pk
namespace Pk
open Go
section
variable {α β σ ε:Type}
end
end Pk
namespace Pk
open Go
section
variable {α:Type}
def dK (x:α):List α→List (List α)
 | []=>[[x]]
 | y::l=>(x::y::l)::(dK x l).map (y :: ·)
end
section
variable {S ρ:Type}
end
section
variable {α ρ:Type}
end
section
variable {α β σ ε S ρ:Type}
end
end Pk
