/-
  The kit,third text: ranges over functions,errors,arguments;plain lemmas on models.
-/
import Derived.Test.YtgdanfnnilcjgaaGreatDoorKitTwo
import Derived.RangeFuncLeaves
import Derived.RangeFuncRecord
import Derived.RangeFuncOwn
import Derived.RangeFuncNested
import Derived.WideLaws
import Derived.Shelf.Strconv.AtoiAll
import Derived.Shelf.Strconv.Itoa3
import Derived.Carry
import Derived.ProofKit
import Derived.LaidMore
import Derived.OpenShut
import Derived.Stop.Joined
import Derived.Shelf.SlSortCmp.NoneTotal
import Derived.Shelf.Vars
import Derived.Lib.AppendZeros
import Derived.SizedLaws
import Derived.Laws.BytesArg
import Derived.Lib.SlicesCompact
import Derived.Lib.AppendStr
import Derived.Maps.RangeRun
import Derived.Laws.Pointers
import Derived.Lib.SlBytesConst
import Derived.Laws.CopyRow
import Derived.Test.YtgdanfnnilcjgaaGreatDoorKitOne
set_option linter.all false
namespace Pk
open Go
section
variable {P:Program} {r:Option Nat} {n rt:aP} {e:List (Nat×aP)} {p:List PanicEntry→aP} {x:Fr} {Hs:List Hp} {σ:aN} {L:bX} {N:aP}
def NI (P:Program) (fn:Func) (R:Ending→World→Prop) (D:List Deferred):aP:=fun a w=>LeavesInM (FW none) 0 P fn a.tmps R D .returning w
def JC (P:Program) (fn:Func) (R:Ending→World→Prop):aP:=fun a w=>LeavesInM (FW none) 0 P fn a.tmps R a.defers .returning w
abbrev mk1 (b:Nat):Deferred:={ target:=.collected b,args:=#[] }
theorem CB {f:FuncId} {fn:Func} {c:Code} {nt:Nat} {w:World} {R:Ending→World→Prop} {l:List Value} (hf:P.funcs[f]?=some fn) (hb:fn.body=some c) (hn:fn.ntmps=nt) (hl:Nat.ble l.length nt=true)
  (h:∀ a,aV [] nt a (jC 0 l)→W P none c (JC P fn R) (JC P fn R) [] (fun _ _ _=>False) a w):Calls P f l.toArray w R:=by
 have hl':l.length≤nt:=by simpa using hl
 have h1:=h { tmps:=l.toArray++Array.replicate (fn.ntmps - l.toArray.size) undef,defers:=[] } ⟨rfl,by simp [hn];omega,fun i v hi=>by
  obtain ⟨_,h2⟩:=pS l 0 i v hi;simp only [Nat.sub_zero] at h2;have hlt:i < l.length:=(List.getElem?_eq_some_iff.1 h2).1;rw [Array.getElem?_append_left (by simpa using hlt)]
  simpa using h2⟩
 refine (callsIn_wide (n:=0)).1 (callsIn_of_wp_marks hf hb trivial ?_);refine wpIn_mono h1 ?_;intro z a w hz
 cases z with
 | normal=>exact hz
 | ret=>exact hz
 | panic ch=>exact hz.elim
 | exit id=>obtain ⟨K,hK,_⟩:=hz;simp [yE] at hK
 | goto l=>exact hz
 | outgrown=>exact hz.elim
theorem yJ {M:Prop} {f:FuncId} {fn:Func} {c:Code} {nt:Nat} {w:World} {R:Ending→World→Prop} {l:List Value} (hf:P.funcs[f]?=some fn) (hb:fn.body=some c) (hn:fn.ntmps=nt) (hl:Nat.ble l.length nt=true) {H:Hp} (hH:H.le (hp w))
  (h:TG ⟨[],nt,M,w,H⟩ [H] [] (jC 0 l) (W P none c (JC P fn R) (JC P fn R) [] (fun _ _ _=>False))):Calls P f l.toArray w R :=
 CB hf hb hn hl fun a hA=>h a w (St.start M w hH) hA
variable {fn:Func} {R:Ending→World→Prop} {D:List Deferred} {k:Nat} {M:Prop} {w0:World} {H0:Hp}
theorem KU (h:TG ⟨D,k,M,w0,H0⟩ Hs σ L (NI P fn R D)):TG ⟨D,k,M,w0,H0⟩ Hs σ L (JC P fn R):=fun a w hS hA=>by
 have:=h a w hS hA;unfold JC;rw [hA.defers];exact this
theorem St.put {t b:Nat} {o o':Obj} {w:World} (hS:St M w0 H0 Hs σ w) (hσ:cE σ t=some (.blk b o)):St M w0 H0 Hs (dY σ t (.blk b o')) (w.putObj b o'):=by
 have hb:w.heap[b]?=some o:=hS.get hσ;exact hS.step hσ (y:=.blk b o') ⟨grownBy_putObj' w b o',Nat.le_refl _⟩ (World.putObj_heap_same (Array.getElem?_eq_some_iff.1 hb).1) (fun _ h=>.inl h)
theorem TI (t:Nat) {b:Nat} (hσ:cE σ t=some (.blk b (.deferred (some [])))) (h:TG x Hs (dY σ t (.blk b (.deferred none))) L (NI P fn R D)):TG x Hs σ L (NI P fn R (mk1 b::D)):=fun a w hS hA=>by
 have hb:w.heap[b]?=some (.deferred (some [])):=hS.get hσ;exact ⟨by simp,.inl ⟨b,_,rfl,run_takeDeferred hb,h a _ (St.put hS hσ) hA⟩⟩
theorem KV {D':List Deferred} (h:TG ⟨[],k,M,w0,H0⟩ Hs σ L (Rt P fn R)):TG ⟨D',k,M,w0,H0⟩ Hs σ L (NI P fn R []):=fun a w hS hA=>by
 obtain ⟨_,v,h1,h2⟩:=h { a with defers:=[] } w hS ⟨rfl,hA.size,hA.get⟩;exact ⟨v,h1,h2⟩
abbrev LR (fn:FuncId) (tm:Array Value) (ps:Array Tmp) (asg body:Code) (dB:Nat) (st:LoopState) (pe:Option Code):Obj:=.loop { state:=st,pending:=pe,fn:=fn,tmps:=tm,params:=ps,assign:=asg,body:=body,defers:=dB }
def JD (O:LoopState→Option Code→Obj) (tm:Array Value) (ps:List Tmp) (asg body:Code):Prop:=∃ fn dB,∀ s q,O s q=LR fn tm ps.toArray asg body dB s q
def EL (P:Program) (r:Option Nat) (l:Nat) (n rt:aP) (e:List (Nat×aP)) (p:List PanicEntry→aP):aP:=fun a w=>∃ jump w',(Instr.endLoop l).run P w=.ok jump w'∧(match jump with | none=>n a w' | some c=>W P r c n rt e p a w')
theorem GV {f:FuncId} {args:Array Value} {w:World} (h:Calls P f args w R):CallsIn (FW r) (0 - 1) P f args w R:=(callsIn_wide (n:=0)).2 h
theorem UV {g:Operand} {ps:List Tmp} {asg body:Code} {f:FuncId} {fnc:Func} {cd:Code} {nt:Nat} {cap:List Value} (tl tD:Nat)
  (hcall:∀ args w,(callFunc f args).run P w=.ok (.enter f args) w) (hfn:P.funcs[f]?=some fnc) (hb:fnc.body=some cd) (hn:fnc.ntmps=nt)
  (hg:ev L g=some (.func (.func f) #[] cap.toArray)) (hl:Nat.ble (cap.length+1) nt=true) (J:Nat→Nat→(LoopState→Option Code→Obj)→World→Prop)
  (h1:∀ l dB O tm,aV [] x.k ⟨tm,[]⟩ L→JD O tm ps asg body→TG ⟨[],nt,x.M,x.w0,x.H0⟩ Hs ((tl,.blk l (O .ready none))::(tD,.blk dB (.deferred (some [])))::σ) (jC 0 (.func (.yield l) #[] #[]::cap))
   (W P none cd (Rt P fnc fun e w=>∃ v,e=.returned v∧J l dB O w) (Rt P fnc fun e w=>∃ v,e=.returned v∧J l dB O w) [] (fun _ _ _=>False)))
  (h2:∀ l dB O tm a w,JD O tm ps asg body→aV (mk1 dB::x.D) x.k a L→J l dB O w→EL P none l n rt e p a w):TG x Hs σ L (W P none (.rangeFunc g ps.toArray asg body) n rt e p):=fun a w hS hA=>by
 refine wpIn_rangeFunc fun fn _=>?_;obtain ⟨O,hO⟩:∃ O:LoopState→Option Code→Obj,∀ s q,O s q=LR fn a.tmps ps.toArray asg body w.heap.size s q:=⟨_,fun _ _=>rfl⟩;have hR:JD O a.tmps ps asg body:=⟨fn,_,hO⟩;obtain ⟨W1,hW1⟩:∃ W1,(w.alloc (.deferred (some []))).alloc (O .ready none)=W1:=⟨_,rfl⟩;refine ⟨w.heap.size+1,[mk1 w.heap.size],W1,⟨.fn (.func f) cap.toArray,#[.func (.yield (w.heap.size+1)) #[] #[]]⟩,W1,f,(.func (.yield (w.heap.size+1)) #[] #[]::cap).toArray,W1,by rw [← hW1,hO];exact run_enterLoop_outer fn a.tmps ps.toArray asg body,?_,?_,?_,?_,?_⟩
 ·simp only [resolve,hA.eval hg];simp [go_sem,Deferred.ofValue]
 ·intro _ _;trivial
 ·simp [invoke,hcall]
 ·intro h;simp [FW] at h
 have hS1:=hS.add (iT.alloc _ w (.deferred (some []))) tD (x:=.blk w.heap.size (.deferred (some []))) (eT w _) (fun b hb=>by simp [aR.foot] at hb;omega);have hS2:=hS1.add (iT.alloc _ _ (O .ready none)) tl (x:=.blk (w.heap.size+1) (O .ready none)) (by have:=eT (w.alloc (.deferred (some []))) (O .ready none);simpa [aR.holds] using this) (fun b hb=>by simp [aR.foot] at hb;simp;omega);have hT:aV [] x.k ⟨a.tmps,[]⟩ L:=⟨rfl,hA.size,hA.get⟩;rw [hW1] at hS2
 have hc:Calls P f (.func (.yield (w.heap.size+1)) #[] #[]::cap).toArray W1 (fun e' w'=>∃ v,e'=.returned v∧J (w.heap.size+1) w.heap.size O w') :=
  enter hfn hb hn (by simpa using hl) fun a' hA'=>sU (fun _ _ h=>h) (fun _ _ h=>h) (fun _ K _ _ hK h=>⟨K,hK,h⟩) (fun _ _ _ h=>h.elim) (h1 _ _ O a.tmps hT hR a' _ hS2 hA')
 refine (GV hc).mono ?_;rintro e' w' ⟨v,rfl,hJ⟩;have hA2:aV (mk1 w.heap.size::x.D) x.k { a with defers:=[mk1 w.heap.size]++a.defers } L:=⟨by simp [hA.defers],hA.size,hA.get⟩;exact h2 _ _ O a.tmps _ w' hR hA2 hJ
theorem nV:∀ (σ:aN) (t:Nat) (y:aR),fK (dY σ t y) t=fK σ t
 | [],_,_=>rfl
 | (i,z)::σ,t,y=>by
  by_cases e:i=t
  ·subst e;simp [dY,fK]
  simp only [dY,fK,dW e,cond_false,nV σ t y]
theorem UW (t:Nat) {l:Nat} {O:LoopState→Option Code→Obj} {tm:Array Value} {ps:List Tmp} {asg body:Code} (hO:JD O tm ps asg body) (hσ:cE σ t=some (.blk l (O .ready none))) (h:TG x Hs (fK σ t) L n):TG x Hs σ L (EL P r l n rt e p):=fun a w hS hA=>by
 have hb:w.heap[l]?=some (O .ready none):=hS.get hσ;obtain ⟨fn,dB,hO⟩:=hO;rw [hO] at hb;exact ⟨_,_,run_endLoop hb (by simp),h a _ (by have:=(St.put (o':=LR fn tm ps.toArray asg body dB .exhausted none) hS hσ).del t;rwa [nV] at this) hA⟩
theorem elC (t:Nat) {l:Nat} {O:LoopState→Option Code→Obj} {tm:Array Value} {ps:List Tmp} {asg body:Code} {c:Code} (hO:JD O tm ps asg body) (hσ:cE σ t=some (.blk l (O .done (some c)))) (h:TG x Hs (fK σ t) L (W P r c n rt e p)):TG x Hs σ L (EL P r l n rt e p):=fun a w hS hA=>by
 have hb:w.heap[l]?=some (O .done (some c)):=hS.get hσ;obtain ⟨fn,dB,hO⟩:=hO;rw [hO] at hb;exact ⟨_,_,run_endLoop hb (by simp),h a _ (by have:=(St.put (o':=LR fn tm ps.toArray asg body dB .exhausted (some c)) hS hσ).del t;rwa [nV] at this) hA⟩
def BR (P:Program) (l:Nat) (N:aP):aP:=fun a w=>∃ w',(Instr.beginRound l).run P w=.ok () w'∧N a w'
def RE (P:Program) (l:Nat) (J:Value→World→Prop) (jump:Option Code):aP:=fun _ w=>∃ v w',(Instr.endRound l jump).run P w=.ok v w'∧J v w'
theorem bR (t:Nat) {l:Nat} {O:LoopState→Option Code→Obj} {tm:Array Value} {ps:List Tmp} {asg body:Code} (hO:JD O tm ps asg body) (hσ:cE σ t=some (.blk l (O .ready none))) (h:TG x Hs (dY σ t (.blk l (O .busy none))) L N):TG x Hs σ L (BR P l N):=fun a w hS hA=>by
 have hb:w.heap[l]?=some (O .ready none):=hS.get hσ;obtain ⟨fn,dB,hO⟩:=hO;rw [hO] at hb;exact ⟨_,run_beginRound hb rfl,h a _ (by have:=St.put (o':=O .busy none) hS hσ;rw [hO] at this ⊢;exact this) hA⟩
theorem eR (t:Nat) {l:Nat} {O:LoopState→Option Code→Obj} {tm:Array Value} {ps:List Tmp} {asg body:Code} {J:Value→World→Prop} (jump:Option Code) (hO:JD O tm ps asg body) (hσ:cE σ t=some (.blk l (O .busy none)))
  (h:∀ w,St x.M x.w0 x.H0 Hs (dY σ t (.blk l (O (if jump.isNone then .ready else .done) jump))) w→J (.bool jump.isNone) w):TG x Hs σ L (RE P l J jump):=fun a w hS hA=>by
 have hb:w.heap[l]?=some (O .busy none):=hS.get hσ;obtain ⟨fn,dB,hO⟩:=hO;rw [hO] at hb;exact ⟨_,_,run_endRound jump hb,h _ (by have:=St.put (o':=O (if jump.isNone then .ready else .done) jump) hS hσ;rw [hO] at this ⊢;exact this)⟩
theorem xB {ps:List Tmp} {vs:List Value} {k:Nat}:∀ {tm:Array Value} {L:bX},aV [] k ⟨tm,[]⟩ L→(ps.all fun t=>Nat.blt t k)=true→aV [] k ⟨(ps.zip vs).foldl (fun t (q,v)=>t.setIfInBounds q v) tm,[]⟩ ((ps.zip vs).reverse++L):=by
 intro tm L hT hp
 induction ps generalizing vs tm L with
 | nil=>exact hT
 | cons q ps ih =>
  cases vs with
  | nil=>exact hT
  | cons v vs =>
   simp only [List.all_cons,Bool.and_eq_true] at hp;have h1:aV [] k ⟨tm.setIfInBounds q v,[]⟩ ((q,v)::L):=by have:=hT.put (d:=q) hp.1 v;simpa [Act.put] using this
   have:=ih (vs:=vs) h1 hp.2;simpa using this
theorem yK {F:Nat→aP} {id:Nat} {K:aP}:∀ (ids:List Nat),yE (ids.map fun i=>(i,F i)) id=some K→K=F id
 | [],h=>by simp [yE] at h
 | i::ids,h=>by
  simp only [List.map_cons,yE] at h;by_cases e:i=id
  ·subst e;simp at h;exact h.symm
  rw [dW e] at h;exact yK ids h
theorem GW {ops:Array Oper} {rest:List Oper} {o:Oper} {l:Nat} {f:FuncId} {tm:Array Value} {asg body:Code} {J:Value→World→Prop} {a:Act} {w:World} (ids:List Nat) (hg:o.guard=none) (hd:∀ c,o.op≠.defer c) (hr:(execOp a.eval o).run P w=.ok (.round l f tm asg body) w)
  (h:W P (some l) asg (BR P l (W P (some l) body (RE P l J none) (RE P l J (some .ret)) (ids.map fun i=>(i,RE P l J (some (.exit i)))) (fun _ _ _=>False))) (fun _ _=>False) [] (fun _ _ _=>False) ⟨tm,[]⟩ w)
  (h2:∀ v w',J v w'→O P r ops n p rest (a.put o.dst v) w'):O P r ops n p (o::rest) a w:=by
 simp only [O,Region.wanted,hg,if_true];refine ⟨fun _ _=>trivial,?_⟩;rw [Oper.semAt_eq _ _ _ hd,hr];refine ⟨fun h=>by simp [FW] at h,?_⟩;have hRI:RoundIn (FW r) (0 - 1) P l f tm asg body w (fun e w'=>∃ v,e=.returned v∧J v w'):=by
  refine roundIn_of_wpIn trivial (wpIn_mono h ?_);intro z a1 w1 hz
  cases z with
  | normal =>
   obtain ⟨w2,hb,hB⟩:=hz;refine ⟨w2,hb,wpIn_mono hB ?_⟩;intro z a w hz
   cases z with
   | normal=>obtain ⟨v,w',h1,h2⟩:=hz;exact ⟨v,w',h1,v,rfl,h2⟩
   | ret=>obtain ⟨v,w',h1,h2⟩:=hz;exact ⟨v,w',h1,v,rfl,h2⟩
   | exit id =>
    obtain ⟨K,hK,hz⟩:=hz
    have:K=RE P l J (some (.exit id)):=by
     exact yK (F:=fun i=>RE P l J (some (.exit i))) ids hK
    subst this;obtain ⟨v,w',h1,h2⟩:=hz;exact ⟨v,w',h1,v,rfl,h2⟩
   | panic c=>exact hz.elim
   | goto l=>exact hz.elim
   | outgrown=>exact hz.elim
  | ret=>exact hz.elim
  | exit id=>obtain ⟨K,hK,_⟩:=hz;simp [yE] at hK
  | panic c=>exact hz.elim
  | goto l=>exact hz.elim
  | outgrown=>exact hz.elim
 refine hRI.mono ?_;rintro e' w' ⟨v,rfl,hJ⟩;exact h2 v w' hJ
theorem AD {x:Operand} {xs:List Operand} {ats:Array TypeId} {l:Nat} {vs:List Value} {dst:Option Nat} {gd:Option (Nat×Bool)} {ty:TypeId} {pos:String} {af:Array Edge} {a:Act} {w:World} {D:List Deferred} {k:Nat} {rec:Loop} (hA:aV D k a L) (hf:ev L x=some (.func (.yield l) #[] #[])) (hxs:oV L xs=some vs)
  (h:w.heap[l]?=some (.loop rec)) (hs:vs.length=rec.params.size) :
  (execOp a.eval ⟨dst,.call ⟨.value x,xs.toArray,ats⟩,ty,pos,af,gd⟩).run P w=.ok (.round l rec.fn ((rec.params.zip vs.toArray).foldl (fun tmps (t,a)=>tmps.setIfInBounds t a) rec.tmps) rec.assign rec.body) w:=by
 have:=mP hA hxs;have hy:=run_yield (P:=P) (args:=vs.toArray) h (by simpa using hs);simp [execOp,resolve,hA.eval hf,Deferred.ofValue,invoke,this,hy]
theorem yl {y:Operand} {xs:List Operand} {ats:Array TypeId} {vs:List Value} {dst:Option Nat} {ty:TypeId} {pos:String} {af:Array Edge} {ops:Array Oper} {rest:List Oper} (t:Nat) {l:Nat} {Oj:LoopState→Option Code→Obj} {tm:Array Value} {ps:List Tmp} {asg body:Code} {k':Nat} {L' L1:bX} (ids:List Nat)
  (hy:ev L y=some (.func (.yield l) #[] #[])) (hxs:oV L xs=some vs) (hσ:cE σ t=some (.blk l (Oj .ready none))) (hT:aV [] k' ⟨tm,[]⟩ L') (hO:JD Oj tm ps asg body) (hlen:vs.length=ps.length) (hps:(ps.all fun t=>Nat.blt t k')=true) (hL:(ps.zip vs).reverse++L'=L1) (J:Value→World→Prop)
  (h1:TG ⟨[],k',x.M,x.w0,x.H0⟩ Hs σ L1 (W P (some l) asg (BR P l (W P (some l) body (RE P l J none) (RE P l J (some .ret)) (ids.map fun i=>(i,RE P l J (some (.exit i)))) (fun _ _ _=>False))) (fun _ _=>False) [] (fun _ _ _=>False)))
  (h2:∀ a w v,aV x.D x.k a L→J v w→O P r ops n p rest (a.put dst v) w):OG P r ops n p x Hs σ L (⟨dst,.call ⟨.value y,xs.toArray,ats⟩,ty,pos,af,none⟩::rest):=fun a w hS hA=>by
 subst hL;have hb:w.heap[l]?=some (Oj .ready none):=hS.get hσ;obtain ⟨fn,dB,hO⟩:=hO;rw [hO] at hb;refine GW (J:=J) ids rfl (fun _ h=>by cases h) (AD hA hy hxs hb (by simpa using hlen)) ?_ (fun v w' hJ=>h2 a w' v hA hJ);have:=h1 _ w hS (xB (vs:=vs) hT hps);simpa using this
theorem TJ {y:Operand} {xs:List Operand} {ats:Array TypeId} {f:FuncId} {fnc:Func} {cd:Code} {nt:Nat} {first cap:List Value} {vs args:List Value} {dst:Option Nat} {ty:TypeId} {pos:String} {af:Array Edge} {ops:Array Oper} {rest:List Oper} (hcall:∀ args w,(callFunc f args).run P w=.ok (.enter f args) w) (hfn:P.funcs[f]?=some fnc) (hb:fnc.body=some cd) (hn:fnc.ntmps=nt) (hf:ev L y=some (.func (.func f) first.toArray cap.toArray)) (hxs:oV L xs=some vs) (hargs:first++vs++cap=args) (hl:Nat.ble args.length nt=true)
  (h1:TG ⟨[],nt,x.M,x.w0,x.H0⟩ Hs σ (jC 0 args) (W P none cd (Rt P fnc fun e w=>∃ v,e=.returned v∧∀ a,aV x.D x.k a L→O P r ops n p rest (a.put dst v) w) (Rt P fnc fun e w=>∃ v,e=.returned v∧∀ a,aV x.D x.k a L→O P r ops n p rest (a.put dst v) w) [] (fun _ _ _=>False))) :
  OG P r ops n p x Hs σ L (⟨dst,.call ⟨.value y,xs.toArray,ats⟩,ty,pos,af,none⟩::rest) :=
 uP hcall hfn hb hn hf hxs hargs hl (fun v w=>∀ a,aV x.D x.k a L→O P r ops n p rest (a.put dst v) w) h1 fun a w v hA hJ=>hJ a hA
end
end Pk
namespace Pk
open Go Go.RowKit
def PL (v:Value):Prop:=v=.nilIface∨∃ te pe,v=.iface te pe
def Er (v:Value) (b:Bool):Prop:=(b=false∧v=.nilIface)∨(b=true∧∃ t u,v=.iface t u)
structure Gl (M:Prop) (gS gR gT:Nat) (H:Hp):Prop where
 nq:¬M
 syn:∃ ev,bC H ⟨gS,0,none⟩ [ev]∧PL ev
 rng:∃ ev,bC H ⟨gR,0,none⟩ [ev]∧PL ev
 tab:∃ t z,H gT=some (.cells (Lib.pow10Tab.map fun i=>Value.int .u64 i).toArray t z)
theorem Gl.mono {M:Prop} {gS gR gT:Nat} {H K:Hp} (h:Gl M gS gR gT H) (hk:H.le K):Gl M gS gR gT K:=by
 obtain ⟨hn,⟨a,h1,h2⟩,⟨b,h3,h4⟩,⟨t,z,h5⟩⟩:=h;exact ⟨hn,⟨a,h1.mono hk,h2⟩,⟨b,h3.mono hk,h4⟩,⟨t,z,hk _ _ h5⟩⟩
theorem yL {w:World} {H:Hp} {g:Nat} {v:Value} (hH:H.le (hp w)) (h:bC H ⟨g,0,none⟩ [v]):w.cell? ⟨g,0,none⟩=some v:=by
 obtain ⟨_,h⟩:=h;obtain ⟨cs,t,z,h1,h2⟩:=h 0 v rfl;have:=hH _ _ h1;simp [World.cell?,show w.heap[g]?=_ from this];simpa using h2
theorem CC {P:Program} {w:World} {H:Hp} {g:Nat} {nm:String} (hn:P.globalNamed nm=some g) (hH:H.le (hp w)) (h:∃ t z,H g=some (.cells (Lib.pow10Tab.map fun i=>Value.int .u64 i).toArray t z)):Lib.TabIs P w nm .u64 Lib.pow10Tab:=by
 obtain ⟨t,z,h⟩:=h;have:=hH _ _ h;simp [Lib.TabIs,World.var?,hn,show w.heap[g]?=_ from this]
theorem iT.of_below {M:Prop} {w w':World} (hM:¬M) (h:Below w.heap.size w w'):iT M w w':=⟨h.os,h.tape,h.output,h.size,fun b hb=>h.block b hb,fun q=>absurd q hM⟩
def lI (s:aF):Int×Bool:=match Lib.atoiAll s with
 | .ok v=>(v,false)
 | .range=>(Lib.atoiSat s,true)
 | _=>(0,true)
noncomputable def CD (s:aF):Option (Int×Bool):=cQ (s.length≤1073741824) (some (lI s))
noncomputable def yM (n:Int):Option aF:=cQ (-9223372036854775808≤n∧n≤9223372036854775807) (some (Lib.itoa n))
section
variable {P:Program} {r:Option Nat} {n:aP} {p:List PanicEntry→aP} {ops:Array Oper} {rest:List Oper} {d:Nat} {ty:TypeId} {pos:String} {af:Array Edge} {x:Fr} {Hs:List Hp} {σ:aN} {L:bX}
theorem neE {y:Operand} {t u:TypeId} {v:Value} {b:Bool} {ms:_} (hu':P.underlying t=some (.interface ms)) (hd:Nat.blt d x.k=true) (hy:ev L y=some v) (hb:Er v b) (h:OG P r ops n p x Hs σ ((d,.bool b)::L) rest):OG P r ops n p x Hs σ L (⟨some d,.binOp .neq t y (.const .nilIface) u,ty,pos,af,none⟩::rest):=fun a w hS hA=>by
 have hu:P.underlying t=some (.interface (P.methodsAt t)):=by rw [hu'];simp [Program.methodsAt,hu']
 refine cO rfl (fun _ h=>by cases h) (w':=w) (v:=.bool b) ?_ (h _ w hS (hA.put hd _));rcases hb with ⟨rfl,rfl⟩ | ⟨rfl,te,pe,rfl⟩ <;> simp [execOp,hA.eval hy,show a.eval (.const .nilIface)=.nilIface from rfl,eqGuard,run_neq_nil_nil w t hu,run_neq_held_nil w t _ _ hu,run_eql_nil_nil w t hu,run_eql_held_nil w t _ _ hu,Result.andThen]
end
def gZ {α:Type} (f:α→α→Option Int) (x y:α):Bool:=match f x y with
 | some c=>decide (c < 0)
 | none=>false
structure jO {α:Type} (f:α→α→Option Int) (l:List α):Prop where
 small:l.length≤1073741824
 some_:∀ x∈l,∀ y∈l,∃ c,f x y=some c
 irr:∀ x∈l,gZ f x x=false
 tr:∀ x∈l,∀ y∈l,∀ z∈l,gZ f x y=true→gZ f y z=true→gZ f x z=true
 tot:∀ x∈l,∀ y∈l,gZ f x y=false→gZ f y x=false→x=y
section
variable {α:Type}
theorem PM {f:α→α→Option Int} {l l':List α} (hok:jO f l) (hp:l'.Perm l) (hs:l'.Pairwise fun x y=>gZ f y x=false):(l.mergeSort fun x y=>!gZ f y x)=l':=by
 have hmap:(l.attach.mergeSort fun a b=>!gZ f b.1 a.1).map (·.1)=l.mergeSort fun x y=>!gZ f y x:=by
  rw [List.map_mergeSort (s:=fun x y=>!gZ f y x) (fun a _ b _=>rfl)];congr 1;exact List.attach_map_subtype_val l
 have hpw:(l.attach.mergeSort fun a b=>!gZ f b.1 a.1).Pairwise (fun a b=>(!gZ f b.1 a.1)=true):=by
  refine List.pairwise_mergeSort (fun a b c h1 h2=>?_) (fun a b=>?_) _
  ·simp only [Bool.not_eq_true'] at *
   cases h3:gZ f c.1 a.1 with
   | false=>rfl
   | true =>
    exfalso
    cases h4:gZ f a.1 b.1 with
    | true=>rw [hok.tr _ c.2 _ a.2 _ b.2 h3 h4] at h2;cases h2
    | false =>
     have e:=hok.tot _ a.2 _ b.2 h4 h1;rw [← e] at h2;rw [h2] at h3;cases h3
  simp only [Bool.or_eq_true,Bool.not_eq_true']
  cases h3:gZ f b.1 a.1 with
  | false=>exact .inl rfl
  | true =>
   right
   cases h4:gZ f a.1 b.1 with
   | false=>rfl
   | true=>have:=hok.tr _ a.2 _ b.2 _ a.2 h4 h3;rw [hok.irr _ a.2] at this;cases this
 have hpw':(l.mergeSort fun x y=>!gZ f y x).Pairwise (fun x y=>(!gZ f y x)=true):=by
  rw [← hmap,List.pairwise_map];exact hpw
 refine List.Perm.eq_of_pairwise (le:=fun x y=>(!gZ f y x)=true) ?_ hpw' ?_ ((List.mergeSort_perm _ _).trans hp.symm)
 ·intro x y hx hy h1 h2;have hx':x∈l:=(List.mergeSort_perm _ _).subset hx;have hy':y∈l:=hp.subset hy;simp only [Bool.not_eq_true'] at h1 h2;exact hok.tot _ hx' _ hy' h2 h1
 exact hs.imp fun h=>by simpa using h
def GX (f:α→α→Option Int) (x:α):List α→List α
 | []=>[x]
 | y::l=>if gZ f x y then x::y::l else y::GX f x l
def GY (f:α→α→Option Int):List α→List α
 | []=>[]
 | x::l=>GX f x (GY f l)
theorem rT (f:α→α→Option Int) (x:α):∀ l,(GX f x l).Perm (x::l)
 | []=>.refl _
 | y::l=>by
  unfold GX
  split
  ·exact .refl _
  exact ((rT f x l).cons y).trans (.swap x y l)
theorem rU (f:α→α→Option Int):∀ l,(GY f l).Perm l
 | []=>.refl _
 | x::l=>(rT f x _).trans ((rU f l).cons x)
def TK (f:α→α→Option Int):List α→Bool
 | []=>true
 | x::l=>l.all (fun y=>gZ f x y)&&TK f l
theorem xC {f:α→α→Option Int}:∀ {l:List α},TK f l=true→l.Pairwise fun x y=>gZ f x y=true
 | [],_=>.nil
 | x::l,h=>by
  unfold TK at h;rw [Bool.and_eq_true,List.all_eq_true] at h;exact .cons h.1 (xC h.2)
def okF (f:α→α→Option Int) (l:List α):Bool:=Nat.ble l.length 1073741824&&l.all fun x=>!gZ f x x&&l.all fun y=>(f x y).isSome&&l.all fun z=>!(gZ f x y&&gZ f y z)||gZ f x z
def uX (f:α→α→Option Int) (l:List α):Option (List α):=if okF f l&&TK f (GY f l) then some (GY f l) else none
theorem JE {R:α→α→Prop}:∀ {l:List α},l.Pairwise R→∀ x∈l,∀ y∈l,x≠y→R x y∨R y x
 | z::l,h,x,hx,y,hy,hne=>by
  obtain ⟨h1,h2⟩:=List.pairwise_cons.1 h;rcases List.mem_cons.1 hx with e | hx'
  ·rcases List.mem_cons.1 hy with e' | hy'
   ·exact absurd (e.trans e'.symm) hne
   rw [e];exact .inl (h1 _ hy')
  rcases List.mem_cons.1 hy with e' | hy'
  ·rw [e'];exact .inr (h1 _ hx')
  exact JE h2 x hx' y hy' hne
theorem uY {f:α→α→Option Int} {l l':List α} (h:uX f l=some l'):jO f l∧(l.mergeSort fun x y=>!gZ f y x)=l':=by
 unfold uX at h
 split at h
 ·rename_i hc
  cases h;rw [Bool.and_eq_true] at hc;obtain ⟨ho,hp⟩:=hc;unfold okF at ho;simp only [Bool.and_eq_true,List.all_eq_true,Bool.not_eq_true',Bool.or_eq_true,Bool.and_eq_false_imp] at ho;have hperm:=rU f l
  have hok:jO f l:=⟨Nat.le_of_ble_eq_true ho.1,fun x hx y hy=>Option.isSome_iff_exists.1 ((ho.2 x hx).2 y hy).1,fun x hx=>(ho.2 x hx).1,fun x hx y hy z hz h1 h2=>by
   rcases ((ho.2 x hx).2 y hy).2 z hz with h3 | h3
   ·rw [h3 h1] at h2;cases h2
   ·exact h3,fun x hx y hy h1 h2=>by
   refine Classical.byContradiction fun hne=>?_;rcases JE (xC hp) x (hperm.mem_iff.2 hx) y (hperm.mem_iff.2 hy) hne with h3 | h3
   ·rw [h1] at h3;cases h3
   rw [h2] at h3;cases h3⟩
  refine ⟨hok,PM hok hperm ((xC hp).imp_of_mem fun {x y} hx hy hxy=>?_)⟩
  cases h3:gZ f y x with
  | false=>rfl
  | true =>
   have h4:=hok.tr _ (hperm.mem_iff.1 hx) _ (hperm.mem_iff.1 hy) _ (hperm.mem_iff.1 hx) hxy h3;rw [hok.irr _ (hperm.mem_iff.1 hx)] at h4;cases h4
 cases h
open Classical in
noncomputable def mX (f:α→α→Option Int) (l:List α):Option (List α):=(uX f l).or (if jO f l then some (l.mergeSort fun x y=>!gZ f y x) else none)
theorem qD {f:α→α→Option Int} {l l':List α} (h:mX f l=some l'):jO f l∧l.mergeSort (fun x y=>!gZ f y x)=l':=by
 unfold mX at h
 cases hF:uX f l with
 | some l2=>rw [hF] at h;cases h;exact uY hF
 | none =>
  rw [hF,Option.none_or] at h
  split at h
  ·exact ⟨‹_›,Option.some.inj h⟩
  cases h
theorem CE {f:α→α→Option Int} {l:List α} (hok:jO f l):mX f l=some (l.mergeSort fun x y=>!gZ f y x):=by
 unfold mX
 cases hF:uX f l with
 | some l2=>rw [(uY hF).2];rfl
 | none=>rw [Option.none_or,if_pos hok]
end
theorem rV {α:Type} {f:α→α→Option Int} {l l':List α} (h:mX f l=some l'):l'.length=l.length:=by
 rw [← (qD h).2,List.length_mergeSort]
end Pk
namespace Pk
open Go Go.RowKit Go.ChangeShapes Go.WideShapes
def mI (P:Program) (w:World) (t:TypeId) (n:Nat) {α:Type} (R:Hp→List Value→α→Prop) (ok:α→Prop):Prop :=
 P.cellsOf t=n∧∀ {H:Type} (enc:TypeId×Value→H) (base:Nat) (sp:Nat→Bool) (held:Bool) (fuel:Nat) (cs:List Value) (x:DataW H×List MemPlace),DataW.trod enc P w base sp held fuel t cs=some x→cs.length=n∧∃ a,R (hp w) cs a∧ok a
abbrev eZ (k:IntKind) (n:Int):Prop:=k.min≤n∧n≤k.max
abbrev uZ {α:Type} (ok:α→Prop) (l:List α):Prop:=∀ x∈l,ok x
section
variable {P:Program} {w:World} {t e:TypeId}
theorem CF {α:Type} {R:Hp→List Value→α→Prop} {ok:α→Prop} {ds:TypeDesc} (_hu:P.underlying t=some ds) (hc:P.cellsOf t=1)
  (h0:∀ {H:Type} (enc:TypeId×Value→H) (base:Nat) (sp:Nat→Bool) (held:Bool) (fuel:Nat),DataW.trod enc P w base sp held (fuel+1) t []=none)
  (h2:∀ {H:Type} (enc:TypeId×Value→H) (base:Nat) (sp:Nat→Bool) (held:Bool) (fuel:Nat) (u v:Value) (l:List Value),DataW.trod enc P w base sp held (fuel+1) t (u::v::l)=none)
  (h1:∀ {H:Type} (enc:TypeId×Value→H) (base:Nat) (sp:Nat→Bool) (held:Bool) (fuel:Nat) (v:Value) (x:DataW H×List MemPlace),DataW.trod enc P w base sp held (fuel+1) t [v]=some x→∃ a,R (hp w) [v] a∧ok a):mI P w t 1 R ok:=by
 refine ⟨hc,fun {H} enc base sp held fuel cs x h=>?_⟩
 cases fuel with
 | zero=>cases h
 | succ fuel =>
  match cs,h with
  | [],h=>rw [h0] at h;cases h
  | [v],h=>exact ⟨rfl,h1 enc base sp held fuel v x h⟩
  | u::v::l,h=>rw [h2] at h;cases h
theorem iW {k:IntKind} (hu:P.underlying t=some (.int k)) (hc:P.cellsOf t=1):mI P w t 1 (aG (aU k)) (eZ k):=by
 refine CF hu hc (fun enc base sp held fuel=>by unfold DataW.trod;rw [hu]) (fun enc base sp held fuel u v l=>by unfold DataW.trod;rw [hu];cases u <;> rfl) (fun enc base sp held fuel v x h=>?_);unfold DataW.trod at h;rw [hu] at h;cases v <;> simp at h
 rename_i k' n
 obtain ⟨⟨rfl,hw⟩,_⟩:=h;exact ⟨n,rfl,by simpa [Lit.wf,IntKind.has] using hw⟩
theorem jF (hu:P.underlying t=some .string) (hc:P.cellsOf t=1):mI P w t 1 (aG bL) (fun s=>s.length≤maxLen):=by
 refine CF hu hc (fun enc base sp held fuel=>by unfold DataW.trod;rw [hu]) (fun enc base sp held fuel u v l=>by unfold DataW.trod;rw [hu];cases u <;> rfl) (fun enc base sp held fuel v x h=>?_);unfold DataW.trod at h;rw [hu] at h;cases v <;> simp at h
 rename_i s
 refine ⟨s.data.toList,?_,by show s.data.toList.length≤maxLen;rw [Array.length_toList];exact h.1⟩;show _=bL _;simp [bL,bs]
theorem yN {α:Type} {Q:Nat→α→Prop}:∀ (n:Nat),(∀ i,i < n→∃ x,Q i x)→∃ l:List α,l.length=n∧∀ i x,l[i]?=some x→Q i x
 | 0,_=>⟨[],rfl,fun i x h=>by simp at h⟩
 | n+1,h=>by
  obtain ⟨l,h1,h2⟩:=yN n (fun i hi=>h i (by omega));obtain ⟨x,hx⟩:=h n (by omega);refine ⟨l++[x],by simp [h1],fun i y hy=>?_⟩;by_cases hi:i < l.length
  ·rw [List.getElem?_append_left hi] at hy;exact h2 i y hy
  rw [List.getElem?_append_right (by omega)] at hy
  have:i - l.length=0:=by
   by_cases c:i - l.length=0
   ·exact c
   rw [List.getElem?_eq_none (by simp;omega)] at hy;cases hy
  rw [this] at hy;simp at hy;subst hy;rw [show i=n by omega];exact hx
theorem pJ {α β:Type} {f:α→Option β}:∀ {l:List α} {ys:List β},l.mapM f=some ys→∀ x∈l,∃ y,f x=some y
 | [],_,_,x,hx=>by cases hx
 | a::l,ys,h,x,hx=>by
  simp only [List.mapM_cons,Option.pure_def,Option.bind_eq_bind,Option.bind_eq_some_iff] at h;obtain ⟨y,h1,zs,h2,_⟩:=h;rcases List.mem_cons.1 hx with rfl | hx
  ·exact ⟨y,h1⟩
  exact pJ h2 x hx
theorem vA {base:Nat} {a:Addr} {n:Nat} {cs:List Value} (h:w.cells? base a n=some cs) (hn:0 < n):bC (hp w) a cs∧cs.length=n:=by
 unfold World.cells? at h
 split at h
 ·have hlen:cs.length=n:=by
   have:∀ (l:List Nat) (ys:List Value),l.mapM (fun i=>w.cell? (a.add i))=some ys→ys.length=l.length:=by
    intro l
    induction l with
    | nil=>intro ys h;simp at h;subst h;rfl
    | cons x l ih =>
     intro ys h;simp only [List.mapM_cons,Option.pure_def,Option.bind_eq_bind,Option.bind_eq_some_iff] at h;obtain ⟨y,_,zs,h2,h3⟩:=h;cases h3;simp [ih _ h2]
   rw [this _ _ h];simp
  have hat:∀ (l:List Nat) (ys:List Value),l.mapM (fun i=>w.cell? (a.add i))=some ys→∀ (j:Nat) (v:Value),ys[j]?=some v→∃ i:Nat,l[j]?=some i∧w.cell? (a.add i)=some v:=by
   intro l
   induction l with
   | nil=>intro ys h j v hj;simp at h;subst h;simp at hj
   | cons x l ih =>
    intro ys h j v hj;simp only [List.mapM_cons,Option.pure_def,Option.bind_eq_bind,Option.bind_eq_some_iff] at h;obtain ⟨y,h1,zs,h2,h3⟩:=h;cases h3
    cases j with
    | zero=>simp at hj;subst hj;exact ⟨x,rfl,h1⟩
    | succ j=>simp at hj;exact ih _ h2 j v hj
  have hij:∀ j i:Nat,(List.range n)[j]?=some i→i=j:=by
   intro j i hi;have hlt:j < n:=by
    have:=(List.getElem?_eq_some_iff.1 hi).1;simpa using this
   rw [List.getElem?_range hlt] at hi;simpa using hi.symm
  have hs:a.spot=none:=by
   obtain ⟨i,hi,hv⟩:=hat _ _ h 0 (cs[0]'(by omega)) (List.getElem?_eq_getElem _);obtain rfl:=hij _ _ hi;have ha:a.add 0=a:=by simp [Addr.add]
   rw [ha] at hv;unfold World.cell? at hv
   split at hv
   ·cases hs:a.spot with
    | none=>rfl
    | some s=>simp [hs] at hv
   cases hv
  refine ⟨⟨hs,fun j v hj=>?_⟩,hlen⟩;obtain ⟨i,hi,hv⟩:=hat _ _ h j v hj;obtain rfl:=hij _ _ hi;rw [dX hs] at hv;unfold World.cell? at hv;simp only at hv
  split at hv
  ·rename_i c ty fz hh
   simp at hv;exact ⟨c,ty,fz,hh,hv⟩
  cases hv
 cases h
theorem fQ {α:Type} {R:Hp→List Value→α→Prop} {ok:α→Prop} {n:Nat} (hu:P.underlying t=some (.slice e)) (hc:P.cellsOf t=1) (hn:0 < n) (he:mI P w e n R ok):mI P w t 1 (kA R n) (uZ ok):=by
 refine ⟨hc,fun {H} enc base sp held fuel cs x h=>?_⟩
 cases fuel with
 | zero=>cases h
 | succ fuel =>
  unfold DataW.trod at h;rw [hu] at h
  split at h <;> try (simp_all;done)
  ·exact ⟨rfl,[],⟨none,0,rfl,Sl.nil _ _ _ _ _ (by decide)⟩,fun x hx=>by cases hx⟩
  rename_i e' a len cap he'
  cases he'
  split at h
  ·rename_i hb
   rw [Option.bind_eq_some_iff] at h;obtain ⟨elems,h1,_⟩:=h;rw [he.1] at h1;have hat:∀ i,i < len→∃ z,(∃ cs,w.cells? base (a.add (i*n)) n=some cs∧R (hp w) cs z)∧ok z:=by
    intro i hi;obtain ⟨y,hy⟩:=pJ h1 i (List.mem_range.2 hi);rw [Option.bind_eq_some_iff] at hy;obtain ⟨cs,hcs,hy⟩:=hy;obtain ⟨_,z,hz1,hz2⟩:=he.2 enc base sp held fuel cs y hy;exact ⟨z,⟨cs,hcs,hz1⟩,hz2⟩
   obtain ⟨l,hl,hq⟩:=yN len hat;subst hl;refine ⟨rfl,l,⟨some a,cap,rfl,⟨hb.2.1,Nat.le_trans hb.2.2 (by decide)⟩,fun i z hz=>?_⟩,fun z hz=>?_⟩
   ·obtain ⟨⟨cs,h2,h3⟩,_⟩:=hq i z hz;obtain ⟨h4,h5⟩:=vA h2 hn;have hsp:a.spot=none:=by
     obtain ⟨_,⟨cs0,h6,_⟩,_⟩:=hat 0 (by have:=bA hz;omega);have:=(vA h6 hn).1.1;simpa [Addr.add] using this
    exact ⟨a,cs,rfl,hsp,h5,h4,h3⟩
   obtain ⟨i,hi⟩:=List.mem_iff_getElem?.1 hz;exact (hq i z hi).2
  cases h
def TL (cs:List Value):List Nat→Nat→List (List Value)
 | [],_=>[]
 | n::ns,o=>(cs.drop o).take n::TL cs ns (o+n)
theorem lY (cs:List Value):∀ (ns:List Nat) (o:Nat),cs.length=o+ns.sum→cs.drop o=(TL cs ns o).flatten
 | [],o,h=>by simp at h;simp [TL,List.drop_eq_nil_of_le (Nat.le_of_eq h)]
 | n::ns,o,h=>by
  simp only [TL,List.flatten_cons];rw [← lY cs ns (o+n) (by simp at h;omega),← List.drop_drop,List.take_append_drop]
theorem fH {H:Type} {enc:TypeId×Value→H} {base:Nat} {sp:Nat→Bool} {held:Bool} {fuel:Nat} {cs:List Value} {x:DataW H×List MemPlace} {fs:Array Field} (hu:P.underlying t=some (.struct fs)) (h:DataW.trod enc P w base sp held fuel t cs=some x) :
  cs.length=P.cellsOf t∧∃ fuel',∀ f∈fs.toList,∃ y,DataW.trod enc P w base sp held fuel' f.type ((cs.drop f.offset).take (P.cellsOf f.type))=some y:=by
 cases fuel with
 | zero=>cases h
 | succ fuel =>
  unfold DataW.trod at h;rw [hu] at h;simp only at h
  split at h
  ·rename_i hl
   refine ⟨hl,fuel,fun f hf=>?_⟩;rw [Option.map_eq_some_iff] at h;obtain ⟨ys,h1,_⟩:=h;exact pJ h1 f hf
  cases h
theorem CG {α:Type} {R:Hp→List Value→α→Prop} {ok:α→Prop} (hr:mI P w t 1 R ok) {H:Type} {enc:TypeId×Value→H} {base b0:Nat} {sp:Nat→Bool} {held:Bool} {v:Value} {d:DataW H} {ps:List MemPlace} (hv:Value.okWide P w .any b0 t v) (hns:∀ cs,v≠.agg cs) (h:DataW.Trod enc P w base sp held t v d ps):∃ a,R (hp w) [v] a∧ok a:=by
 obtain ⟨fuel,h⟩:=h;obtain ⟨_,a,h1,h2⟩:=hr.2 enc base sp held fuel _ _ h
 have:v.cells.toList=[v]:=by
  cases v <;> first | rfl | exact absurd rfl (hns _)
 rw [this] at h1;exact ⟨a,h1,h2⟩
theorem rW {α:Type} {n:Nat} {R:Hp→List Value→α→Prop} {ok:α→Prop} (hr:mI P w t n R ok) {H:Type} {enc:TypeId×Value→H} {base b0:Nat} {sp:Nat→Bool} {held:Bool} {v:Value} {d:DataW H} {ps:List MemPlace} {fs:Array Field} (hu:P.underlying t=some (.struct fs)) (hv:Value.okWide P w .any b0 t v) (h:DataW.Trod enc P w base sp held t v d ps):∃ cs a,v=.agg cs.toArray∧R (hp w) cs a∧ok a:=by
 unfold Value.okWide at hv;rw [hu] at hv;obtain ⟨cs,rfl,_,_⟩:=hv;obtain ⟨fuel,h⟩:=h;obtain ⟨_,a,h1,h2⟩:=hr.2 enc base sp held fuel _ _ h;exact ⟨cs.toList,a,by simp,h1,h2⟩
theorem nsl (hu:P.underlying t=some (.slice e)) {b0:Nat} {v:Value} (hv:Value.okWide P w .any b0 t v):∀ cs,v≠.agg cs:=by
 rintro cs rfl;unfold Value.okWide at hv;rw [hu] at hv;simp only [Cell.okWide,hu,Cell.ok] at hv
end
section
variable {H:Type} {enc:TypeId×Value→H} {P:Program}
theorem lJ (hl:laidOutB P=true) {W W':World} {sp:Nat→Bool} (hb:Below W.heap.size W W'):∀ {ts:List TypeId} {vs:List Value} {ds:List (DataW H)} {ps:List MemPlace},(∀ t∈ts,P.readableRec t=true∧t < P.types.size)→DataW.TrodAll enc P W 0 (fun _=>true) true ts vs ds ps→(∀ x∈ps,x.block < W.heap.size)→(∀ x∈ps,sp x.block=true)→DataW.TrodAll enc P W' 0 sp true ts vs ds ps
 | [],_,_,_,_,h,_,_=>by
  obtain ⟨rfl,rfl,rfl⟩:=trodAll_nil h;exact rfl
 | t::ts,_,_,_,hr,h,hlt,hs=>by
  obtain ⟨v,vs,d,ds,p,q,rfl,rfl,rfl,h1,h2⟩:=trodAll_cons h;have ht:=hr t List.mem_cons_self
  exact ⟨p,q,WideElems.Trod_stays hl ht.1 ht.2 h1 (fun x hx=>hb.same (hlt x (List.mem_append_left _ hx))) (fun x hx=>hs x (List.mem_append_left _ hx)),
   lJ hl hb (fun u hu=>hr u (List.mem_cons_of_mem _ hu)) h2 (fun x hx=>hlt x (List.mem_append_right _ hx)) (fun x hx=>hs x (List.mem_append_right _ hx)),rfl⟩
theorem AE {M:Prop} {w w':World} (h:iT M w w'):Below w.heap.size w w':=⟨h.os,h.tape,h.output,h.size,fun b hb=>h.keep b hb⟩
theorem GZ {M:Prop} {w w':World} (h:iT M w w') (may:MemPlace→Prop):w.keptBut w' may:=by
 refine ⟨h.os,h.output,fun i hi=>?_⟩;rw [h.keep i hi]
 cases w.heap[i]? with
 | none=>trivial
 | some o=>cases o <;> first | rfl | exact ⟨rfl,rfl,rfl,fun _ _=>rfl⟩ | exact .inr ⟨rfl,rfl⟩
theorem CH {f:Func} {s:ChangeSpec} {apart fresh handsOn again:Bool} {W W':World} {args:Array Value} {ds gs:List (DataW H)} {before:List MemPlace} {tb:TypeId}
  (hW:DataW.Whole enc P f.params.toList s.vars apart W args.toList ds gs before) (hv:s.vars=[]) (hl:laidOutB P=true) (hr:∀ t∈f.params.toList,P.readableRec t=true∧t < P.types.size)
  (hs:s.fn H ds={ results:=[.lit (.bool true)],args:=ds }) (hrt:f.resultTypes = #[tb]) (hb:P.underlying tb=some .bool) {M:Prop} (hE:iT M W W'):s.post enc P f apart fresh handsOn again W args (.bool true) W':=by
 have hB:=AE hE;have hlt:∀ x∈before,x.block < W.heap.size:=fun x hx=>by simpa using hW.lt x hx
 have hold:∀ p∈before,(fun b=>decide (b < W.heap.size)) p.block=true:=fun p hp=>by simpa using hlt p hp
 have hW0:=hW;obtain ⟨p,q,hA,hV,rfl,hz,hn⟩:=hW;rw [hv] at hV;obtain ⟨rfl,rfl⟩:=trodVars_none hV;rw [List.append_nil] at *;have hfn:s.fn H (ds++[])={ results:=[.lit (.bool true)],args:=ds }:=by rw [List.append_nil];exact hs
 have hargs:∀ sp:Nat→Bool,(∀ x∈p,sp x.block=true)→DataW.TrodAll enc P W' 0 sp true f.params.toList args.toList ds p:=fun sp h=>lJ hl hB hr hA hlt h;have hres:∀ (b:Nat) (sp:Nat→Bool) (hd:Bool),DataW.TrodAll enc P W' b sp hd f.resultTypes.toList ((Value.bool true).resultList f.resultTypes.size) [.lit (.bool true)] []:=fun b sp hd=>by
  rw [hrt];exact trodAll_mk1 (shut_bool hb _)
 have hvars:∀ sp:Nat→Bool,DataW.TrodVars enc P W' sp s.vars [] []:=fun sp=>by rw [hv];rfl
 refine ⟨ds,[],p,[],p,[],by simpa using hW0,by rw [hfn];exact hres _ _ _,by rw [hfn];exact hargs _ hold,by rw [hfn];exact hvars _,World.keptBut_mono (fun x hx=>⟨hx,by simpa using hx⟩) (GZ hE _),fun _=>?_⟩;refine ⟨ok_one hrt rfl (okWide_bool_mk hb _),_,_,([]++p)++[],⟨[]++p,[],trodAll_append (hargs _ (fun _ _=>rfl)) (hres _ _ _),hvars _,rfl,?_,?_⟩,?_⟩
 ·intro b off hp;have hp':MemPlace.cell b off∈p:=by simpa using hp
  have hb':b < W.heap.size:=hlt _ hp'
  have:W'.frozen? ⟨b,off,none⟩=W.frozen? ⟨b,off,none⟩:=by
   unfold World.frozen?;rw [hE.keep b hb']
  rw [this];exact hz b off hp'
 ·intro ha;have:=hn ha;simpa using this
 intro x hx _;simpa using hx
end
section
variable {H:Type} {enc:TypeId×Value→H} {P:Program} {w:World} {t e:TypeId} {base:Nat} {sp:Nat→Bool} {held:Bool} {fuel:Nat} {cs:List Value}
theorem vB {ms:Array (String×TypeId)} {x:DataW H×List MemPlace} (hu:P.underlying t=some (.interface ms)) (h:DataW.trod enc P w base sp held fuel t cs=some x):∃ v,cs=[v]∧PL v:=by
 cases fuel with
 | zero=>cases h
 | succ fuel =>
  unfold DataW.trod at h;rw [hu] at h
  match cs,h with
  | [],h=>cases h
  | [.nilIface],_=>exact ⟨_,rfl,.inl rfl⟩
  | [.iface u v],_=>exact ⟨_,rfl,.inr ⟨_,_,rfl⟩⟩
  | u::v::l,h=>cases u <;> simp at h
  | [.bool _],h | [.int _ _],h | [.float _ _],h | [.complex _ _ _],h | [.string _],h | [.pointer _],h | [.slice _ _ _],h | [.agg _],h | [.tuple _],h | [.map _],h | [.chan _],h | [.func _ _ _],h | [.nilFunc],h=>simp at h
theorem rX {n:String} {g:Nat} {cs:Array Value} (hg:P.globalNamed n=some g) (hv:w.var? P n=some cs):∃ t z,hp w g=some (.cells cs t z):=by
 unfold World.var? at hv;rw [hg,Option.bind_some] at hv
 split at hv
 ·rename_i c t z hh
  cases hv;exact ⟨t,z,hh⟩
 cases hv
theorem yO {n:String} {g:Nat} {cs:Array Value} {v:Value} (hg:P.globalNamed n=some g) (hv:w.var? P n=some cs) (hc:cs.toList=[v]):bC (hp w) ⟨g,0,none⟩ [v]:=by
 obtain ⟨t,z,h⟩:=rX hg hv;refine ⟨rfl,fun j u hu=>⟨cs,t,z,h,?_⟩⟩;rw [← hc] at hu;simpa using hu
theorem vC {α β:Type} {f:α→Option β}:∀ {l:List α} {ys:List β},l.mapM f=some ys→∀ i:Nat,(l[i]?).bind f=ys[i]?
 | [],ys,h,i=>by simp at h;subst h;simp
 | a::l,ys,h,i=>by
  simp only [List.mapM_cons,Option.pure_def,Option.bind_eq_bind,Option.bind_eq_some_iff] at h;obtain ⟨y,h1,zs,h2,h3⟩:=h;cases h3
  cases i with
  | zero=>simpa using h1
  | succ i=>simpa using vC h2 i
theorem KW {k:IntKind} {n:Nat} {zs:List Int} {ps:List MemPlace} (hu:P.underlying t=some (.array n e)) (he:P.underlying e=some (.int k)) (hc:P.cellsOf e=1) (ht:P.cellsOf t=n) (h:DataW.trod enc P w base sp held fuel t cs=some (.agg (zs.map fun z=>.lit (.int k z)),ps)):cs=zs.map fun z=>Value.int k z:=by
 cases fuel with
 | zero=>cases h
 | succ fuel =>
  unfold DataW.trod at h;rw [hu] at h;simp only at h
  split at h
  ·rename_i hl
   rw [Option.map_eq_some_iff] at h;obtain ⟨xs,h1,h2⟩:=h;simp only [Prod.mk.injEq,DataW.agg.injEq] at h2;have hx:=h2.1;rw [hc] at h1;apply List.ext_getElem?;intro i;have hi:=vC h1 i;by_cases hin:i < n
   ·rw [List.getElem?_range hin,Option.bind_some] at hi;have hlt:i < cs.length:=by omega
    have e1:(cs.drop (i*1)).take 1=[cs[i]]:=by rw [Nat.mul_one,List.drop_eq_getElem_cons hlt,List.take_succ_cons,List.take_zero]
    rw [e1] at hi;have hxi:xs[i]?≠none:=by
     intro hn;obtain ⟨y,hy⟩:=pJ h1 i (List.mem_range.2 hin);rw [e1,hi,hn] at hy;cases hy
    cases hxs:xs[i]? with
    | none=>exact absurd hxs hxi
    | some y =>
     rw [hxs] at hi;have hz:(zs.map fun z=>(DataW.lit (.int k z):DataW H))[i]?=some y.1:=by rw [← hx];simp [hxs]
     cases fuel with
     | zero=>cases hi
     | succ fuel =>
      unfold DataW.trod at hi;rw [he] at hi;rw [List.getElem?_eq_getElem hlt];cases hv:cs[i] <;> rw [hv] at hi <;> simp at hi
      rename_i k' m
      obtain ⟨⟨rfl,_⟩,rfl⟩:=hi;simp only [List.getElem?_map,Option.map_eq_some_iff] at hz ⊢;obtain ⟨z,hz1,hz2⟩:=hz;cases hz2;simp [hz1]
   have:xs[i]?=none:=by
    rw [← hi,List.getElem?_eq_none (by simp;omega)];rfl
   have hz:(zs.map fun z=>(DataW.lit (.int k z):DataW H))[i]?=none:=by rw [← hx];simp [this]
   rw [List.getElem?_eq_none (show cs.length≤i by omega)];rw [List.getElem?_eq_none_iff,List.length_map] at hz
   symm
   rw [List.getElem?_eq_none_iff,List.length_map];exact hz
  cases h
theorem PN {gS gR gT:Nat} {nS nR nT:String} {cS cR cT:Array Value} {vS vR:Value} (h1:P.globalNamed nS=some gS) (h2:w.var? P nS=some cS) (h3:cS.toList=[vS]) (h4:PL vS) (h5:P.globalNamed nR=some gR) (h6:w.var? P nR=some cR) (h7:cR.toList=[vR]) (h8:PL vR)
  (h9:P.globalNamed nT=some gT) (h0:w.var? P nT=some cT) (hA:cT.toList=Lib.pow10Tab.map fun z=>Value.int .u64 z):Gl False gS gR gT (hp w):=by
 refine ⟨not_false,⟨vS,yO h1 h2 h3,h4⟩,⟨vR,yO h5 h6 h7,h8⟩,?_⟩;obtain ⟨t,z,h⟩:=rX h9 h0
 have:cT=(Lib.pow10Tab.map fun z=>Value.int .u64 z).toArray:=by rw [← hA]
 exact ⟨t,z,by rw [← this];exact h⟩
end
end Pk
namespace Pk
open Go Go.Proofs
def PO (P:Program) (f:Nat):Prop :=
 (∀ p cap fv w,Calls P f #[.slice p 0 cap,fv] w fun e w'=>e=.returned (.tuple #[])∧w'=w) ∧
 ∀ (α:Type) (_:Inhabited α) (enc:α→Value) (_:OneCell enc) (cf:α→α→Int) (_:Sort.SWO (ltOf cf)) (g:Nat) (cb:Array Value) (blk off cap:Nat) (d:Array α) (w:World),
  (∀ args w,(callFunc g args).run P w=.ok (.enter g args) w)→CmpLays1 P g cb enc cf blk off d.size w→Sort.Holds enc w blk off d→blk < w.heap.size→d.size < 4611686018427387904→(∀ x y,(ltOf cf) x y=false→(ltOf cf) y x=false→x=y) →
  Calls P f #[.slice (some ⟨blk,off,none⟩) d.size cap,.func (.func g) #[] cb] w fun e w'=>e=.returned (.tuple #[])∧∃ n os,w'=sortWorld enc w blk off n (d.toList.mergeSort fun x y=>!(ltOf cf) y x).toArray os
theorem CI {M:Prop} {w w':World} (q:M) (h:iT M w w'):∃ n os,w'=Sort.grow (w.drewN n) os:=by
 refine ⟨w'.drawn - w.drawn,w'.heap.extract w.heap.size,?_⟩;have hd:=h.drawn q;have hh:w'.heap=w.heap++w'.heap.extract w.heap.size:=by
  have hs:=h.size;refine Array.ext_getElem? fun i=>?_;by_cases hi:i < w.heap.size
  ·rw [Array.getElem?_append_left hi];exact h.keep i hi
  rw [Array.getElem?_append_right (by omega),Array.getElem?_extract];by_cases h2:i < w'.heap.size
  ·rw [if_pos (by omega)];congr 1;omega
  rw [if_neg (by omega)];exact Array.getElem?_eq_none (by omega)
 obtain ⟨heap,tape,drawn,os,out⟩:=w';obtain ⟨heap0,tape0,drawn0,os0,out0⟩:=w;have h1:=h.os;have h2:=h.tape;have h3:=h.output;dsimp only at h1 h2 h3 hd hh;subst h1;subst h2;subst h3;simp only [Sort.grow,World.drewN,World.mk.injEq,and_true,true_and];exact ⟨hh,by omega⟩
theorem kK {w:World} {g b:Nat} {f:Array Value→Array Value} (h:b≠g):(Sort.mapBlock w g f).heap[b]?=w.heap[b]?:=by
 show (w.heap.modify g _)[b]?=_;rw [Array.getElem?_modify,if_neg (Ne.symm h)]
theorem HA {α:Type} [Inhabited α] {enc:α→Value} {w:World} {g m:Nat} {d:Array α} {os:Array Obj} {cur:Array Value} {e:TypeId} {fz:Nat×Nat} (hg:w.heap[g]?=some (.cells cur e fz)) (hd:d.size≤cur.size) :
  rL w (sortWorld enc w g 0 m d os) (some g)∧∃ cur',(sortWorld enc w g 0 m d os).heap[g]?=some (.cells cur' e fz)∧cur'.size=cur.size∧cur'.toList.take d.size=d.toList.map enc:=by
 have hlt:g < w.heap.size:=(Array.getElem?_eq_some_iff.1 hg).1;have hsz:(Sort.putRow enc (Sort.ahead w m) g 0 d).heap.size=w.heap.size:=by simp [Sort.putRow,Sort.mapBlock,Sort.ahead]
 refine ⟨⟨⟨rfl,rfl,rfl,?_,fun b hb hne=>?_⟩,?_⟩,Sort.putCells enc 0 d cur,?_,?_,?_⟩
 ·show _≤((Sort.putRow enc (Sort.ahead w m) g 0 d).heap++os).size;rw [Array.size_append,hsz];omega
 ·show ((Sort.putRow enc (Sort.ahead w m) g 0 d).heap++os)[b]?=_;rw [Array.getElem?_append_left (by rw [hsz];exact hb)];exact kK (w:=Sort.ahead w m) (fun e=>hne (by rw [e]))
 ·show w.drawn≤w.drawn+m;omega
 ·show ((Sort.putRow enc (Sort.ahead w m) g 0 d).heap++os)[g]?=_;rw [Array.getElem?_append_left (by rw [hsz];exact hlt)];show ((Sort.ahead w m).heap.modify g _)[g]?=_;rw [Array.getElem?_modify,if_pos rfl];show (w.heap[g]?).map _=_;rw [hg];rfl
 ·simp [Sort.putCells]
 apply List.ext_getElem?;intro i;rw [List.getElem?_take,List.getElem?_map];by_cases hi:i < d.size
 ·rw [if_pos hi];simp only [Sort.putCells,Array.getElem?_toList,Array.getElem?_mapIdx];have h1:cur[i]?=some cur[i]:=Array.getElem?_eq_getElem (by omega);have h2:d[i]?=some d[i]:=Array.getElem?_eq_getElem hi;rw [h1,h2];simp [hi]
 rw [if_neg hi]
 have:d[i]?=none:=Array.getElem?_eq_none (by omega)
 simp [this]
section
variable {P:Program} {r:Option Nat} {n:aP} {p:List PanicEntry→aP} {ops:Array Oper} {rest:List Oper} {d:Nat} {ty:TypeId} {pos:String} {af:Array Edge} {x:Fr} {Hs:List Hp} {σ:aN} {L:bX}
theorem jO.swo {α:Type} {f:α→α→Option Int} {l:List α} (h:jO f l):Sort.SWO (ltOf fun (a b:{x // x∈l})=>(f a.1 b.1).getD 0)∧(∀ a b:{x // x∈l},ltOf (fun (a b:{x // x∈l})=>(f a.1 b.1).getD 0) a b=gZ f a.1 b.1):=by
 have key:∀ a b:{x // x∈l},ltOf (fun (a b:{x // x∈l})=>(f a.1 b.1).getD 0) a b=gZ f a.1 b.1:=fun a b=>by
  obtain ⟨c,hc⟩:=h.some_ a.1 a.2 b.1 b.2;simp [ltOf,gZ,hc]
 refine ⟨⟨fun a=>by rw [key];exact h.irr _ a.2,fun a b c h1 h2=>by rw [key] at *;exact h.tr _ a.2 _ b.2 _ c.2 h1 h2,fun a b c h1 h2=>?_⟩,key⟩;rw [key] at *
 cases h3:gZ f a.1 c.1 with
 | false=>rfl
 | true =>
  exfalso
  cases h4:gZ f b.1 a.1 with
  | true =>
   have:=h.tr _ b.2 _ a.2 _ c.2 h4 h3;rw [this] at h2;cases h2
  | false =>
   have e:=h.tot _ a.2 _ b.2 h1 h4;rw [e] at h3;rw [h3] at h2;cases h2
theorem tI {α:Type} (f:α→α→Option Int) (l:List α) (lt:{x // x∈l}→{x // x∈l}→Bool) (h:∀ a b,lt a b=gZ f a.1 b.1):(l.attach.mergeSort fun a b=>!lt b a).map (·.1)=l.mergeSort fun x y=>!gZ f y x:=by
 rw [List.map_mergeSort (s:=fun x y=>!gZ f y x) (fun a _ b _=>by rw [h b a])];congr 1;exact List.attach_map_subtype_val l
theorem CJ {α:Type} [Inhabited α] {enc:α→Value} {M:Prop} {w0 w:World} {H0:Hp} {g m:Nat} {d:Array α} {os:Array Obj} (hS:St M w0 H0 Hs σ w) {tg:Nat} {y:aR} (hy:cE σ tg=some y) (hg:y.foot=some g):(hQ w0 H0 σ w).le (hp (sortWorld enc w g 0 m d os)):=by
 intro b o hb;have hw:=hS.vis_le b o hb;have hne:b≠g:=by
  rintro rfl;unfold hQ at hb;rw [if_pos ⟨tg,y,eO hy,hg⟩] at hb;cases hb
 have hlt:b < w.heap.size:=(Array.getElem?_eq_some_iff.1 hw).1;show ((Sort.putRow enc (Sort.ahead w m) g 0 d).heap++os)[b]?=_;rw [Array.getElem?_append_left (by simp [Sort.putRow,Sort.mapBlock,Sort.ahead];exact hlt)];exact (kK (w:=Sort.ahead w m) hne).trans hw
theorem KX {α:Type} {H:Hp} {g:FuncId} {cb:List Value} {V V':Hp→Value→α→Prop} {f:α→α→Option Int} (hF:eS True P H (.func (.func g) #[] cb.toArray) (JB V V' (fun c=>.int .i64 c) f)) :
  (∀ args w,(callFunc g args).run P w=.ok (.enter g args) w)∧∀ w,H.le (hp w)→∀ u v a b c,V H u a→V' H v b→f a b=some c→Calls P g (#[u,v]++cb.toArray) w fun e w'=>e=.returned (.int .i64 c)∧∃ q os',w'=Sort.grow (w.drewN q) os':=by
 obtain ⟨g',first,cap,e,hc,hr⟩:=hF;simp only [Value.func.injEq,Fn.func.injEq] at e;obtain ⟨rfl,h1,h2⟩:=e;have h1':first=[]:=by simpa using h1.symm
 have h2':cb=cap:=by simpa using h2
 subst h1';subst h2';refine ⟨hc,fun w hw u v a b c hu hv hfc=>?_⟩;have:=hr w H [u,v] (.int .i64 c) (Hp.le.refl _) hw ⟨u,v,a,b,c,rfl,hu,hv,hfc,rfl⟩;have e2:([]++[u,v]++cb).toArray = #[u,v]++cb.toArray:=by simp
 rw [e2] at this;refine this.mono fun e w' he=>?_
 cases e with
 | returned z=>exact ⟨by rw [he.1],CI trivial he.2⟩
 | panicked _=>exact he.elim
 | outgrown=>exact he.elim
theorem UX {α:Type} (tg:Nat) {enc:α→List Value} (enc1:α→Value) (he:∀ x,enc x=[enc1 x]) (h1:∀ x,(enc1 x).oneCell'=true) {l l':List α} {f:α→α→Option Int} {fid:Nat} {z y s:Operand} {ats:Array TypeId} {ad:Option Addr} {cap nn:Nat} {el:TypeId} {g:FuncId} {cb:List Value} {V V':Hp→Value→α→Prop}
  (hC:PO P fid) (hcall:∀ args w,(callFunc fid args).run P w=.ok (.enter fid args) w) (hd:Nat.blt d x.k=true) (hz:ev L z=some (.func (.func fid) #[] #[])) (hs:ev L s=some (.slice ad nn cap)) (hσ:cE σ tg=some (.list ad cap el 1 enc l)) (hn:nn=l.length) (hy:ev L y=some (.func (.func g) #[] cb.toArray))
  (hF:∀ H,wZ Hs H→eS True P H (.func (.func g) #[] cb.toArray) (JB V V' (fun c=>.int .i64 c) f)) (hV:∀ H u,V H (enc1 u) u) (hV':∀ H u,V' H (enc1 u) u) (hso:mX f l=some l')
  (h:OG P r ops n p x Hs (dY σ tg (.list ad cap el 1 enc l')) ((d,.tuple #[])::L) rest):OG P r ops n p x Hs σ L (⟨some d,.call ⟨.value z,#[s,y],ats⟩,ty,pos,af,none⟩::rest):=fun a w hS hA=>by
 subst hn;obtain ⟨hok,hm⟩:=qD hso;obtain ⟨eg,hcmp⟩:=KX (hF (hQ x.w0 x.H0 σ w) fun i K hi=>hS.at i hi);have hrow:=hS.get hσ;have hxs:oV L [s,y]=some [.slice ad l.length cap,.func (.func g) #[] cb.toArray]:=by simp [oV,hs,hy]
 have fin:∀ w',St x.M x.w0 x.H0 Hs (dY σ tg (.list ad cap el 1 enc l')) w'→O P r ops n p rest (a.put (some d) (.tuple #[])) w':=fun w' hS'=>h _ w' hS' (hA.put hd _);have enterIt:∀ R:Ending→World→Prop,Calls P fid #[.slice ad l.length cap,.func (.func g) #[] cb.toArray] w R→(∀ e w',R e w'→e=.returned (.tuple #[])∧St x.M x.w0 x.H0 Hs (dY σ tg (.list ad cap el 1 enc l')) w')→O P r ops n p (⟨some d,.call ⟨.value z,#[s,y],ats⟩,ty,pos,af,none⟩::rest) a w:=fun R hR hk=>by
  refine mK rfl (fun _ h=>by cases h) (kC (xs:=[s,y]) (first:=#[]) (cap:=#[]) hA hz hxs hcall) (by simpa using hR) ?_ ?_ ?_
  ·intro v w' hv;obtain ⟨e,hS'⟩:=hk _ _ hv;cases e;exact fin w' hS'
  ·intro ch w' hv;cases (hk _ _ hv).1
  intro w' hv;cases (hk _ _ hv).1
 by_cases hl:l=[]
 ·subst hl;have hl':l'=[]:=by rw [← hm];simp
  subst hl';refine enterIt _ (hC.1 ad cap _ w) fun e w' hw=>⟨hw.1,?_⟩;rw [hw.2];exact hS.as tg hσ rfl
 rcases hrow.2 with ⟨hn0,_⟩ | ⟨b,cap',cur,hv,_,hg,hnc,hcm,hcs,ht⟩
 ·simp only [Value.slice.injEq] at hn0;exact absurd (List.eq_nil_of_length_eq_zero hn0.2.1) hl
 simp only [Value.slice.injEq] at hv;obtain ⟨rfl,_,rfl⟩:=hv;rw [Nat.mul_one] at hcs ht;have hx0:∃ u,u∈l:=List.exists_mem_of_ne_nil l hl
 haveI:Inhabited {u // u∈l}:=⟨⟨hx0.choose,hx0.choose_spec⟩⟩
 obtain ⟨hO,hlt⟩:=hok.swo;have hflat:∀ q:List α,q.flatMap enc=q.map enc1:=fun q=>by
  induction q with
  | nil=>rfl
  | cons a q ih=>simp [List.flatMap_cons,he,ih]
 have hsz:l.attach.toArray.size=l.length:=by simp
 have hHolds:Sort.Holds (fun u:{u // u∈l}=>enc1 u.1) w b 0 l.attach.toArray:=fun j hj=>by
  rw [hsz] at hj;have hcj:cur[j]?=some (enc1 l[j]):=by
   have:(cur.toList.take l.length)[j]?=(l.map enc1)[j]?:=by rw [ht,hflat]
   rw [List.getElem?_take,if_pos hj,Array.getElem?_toList,List.getElem?_map,List.getElem?_eq_getElem hj] at this;exact this
  have hgj:l.attach.toArray[j]!.1=l[j]:=by
   rw [getElem!_pos _ j (by rw [hsz];exact hj)];simp
  refine ⟨?_,?_⟩
  ·unfold World.cell?;rw [hg];simp only [Option.isSome_none,Bool.false_eq_true,if_false,Nat.zero_add];rw [hcj,hgj]
  unfold World.frozen?;rw [hg];simp
 have hcmp':CmpLays1 P g cb.toArray (fun u:{u // u∈l}=>enc1 u.1) (fun a b=>(f a.1 b.1).getD 0) b 0 l.attach.toArray.size w:=fun m os dk _ u v=>by
  obtain ⟨c,hc⟩:=hok.some_ u.1 u.2 v.1 v.2;have:=hcmp (sortWorld (fun u:{u // u∈l}=>enc1 u.1) w b 0 m dk os) (CJ hS hσ rfl) (enc1 u.1) (enc1 v.1) u.1 v.1 c (hV _ _) (hV' _ _) hc;have e3:(f u.1 v.1).getD 0=c:=by rw [hc];rfl
  show Calls P g _ _ fun e w'=>e=.returned (.int .i64 ((f u.1 v.1).getD 0))∧_;rw [e3];exact this
 have hb:b < w.heap.size:=(Array.getElem?_eq_some_iff.1 hg).1;have hbig:l.attach.toArray.size < 4611686018427387904:=by
  rw [hsz];exact Nat.lt_of_le_of_lt hok.small (by decide)
 have hT:∀ u v:{u // u∈l},ltOf (fun (a b:{u // u∈l})=>(f a.1 b.1).getD 0) u v=false→ltOf (fun (a b:{u // u∈l})=>(f a.1 b.1).getD 0) v u=false→u=v:=fun u v h1 h2=>by
  rw [hlt] at h1 h2;exact Subtype.ext (hok.tot _ u.2 _ v.2 h1 h2)
 have hcon:=hC.2 {u // u∈l} inferInstance (fun u=>enc1 u.1) (fun u=>h1 u.1) (fun (a b:{u // u∈l})=>(f a.1 b.1).getD 0) hO g cb.toArray b 0 cap l.attach.toArray w eg hcmp' hHolds hb hbig hT;rw [hsz] at hcon;have hS2:(l.attach.toArray.toList.mergeSort fun a b=>!ltOf (fun (a b:{u // u∈l})=>(f a.1 b.1).getD 0) b a).map (fun u=>enc1 u.1)=l'.map enc1:=by
  have:=tI f l _ hlt;rw [hm] at this;rw [← this,List.map_map];rfl
 have hS1:(l.attach.toArray.toList.mergeSort fun a b=>!ltOf (fun (a b:{u // u∈l})=>(f a.1 b.1).getD 0) b a).length=l.length:=by
  rw [List.length_mergeSort];exact List.length_attach
 generalize (l.attach.toArray.toList.mergeSort fun a b=>!ltOf (fun (a b:{u // u∈l})=>(f a.1 b.1).getD 0) b a)=S at hcon hS1 hS2;refine enterIt _ hcon fun e w' hw=>⟨hw.1,?_⟩;obtain ⟨_,m,os,rfl⟩:=hw;have hms:S.toArray.size=l.length:=by rw [List.size_toArray];exact hS1
 obtain ⟨hG,cur',hg',hcs',ht'⟩:=HA (enc:=fun u:{u // u∈l}=>enc1 u.1) (m:=m) (os:=os) (d:=S.toArray) hg (by rw [hms,hcs];exact hnc);have hlen:l'.length=l.length:=rV hso;refine hS.step hσ hG ?_ (fun b' hb'=>.inl hb');refine ⟨by rw [hflat,List.length_map,Nat.mul_one],.inr ⟨b,cap,cur',by rw [hlen],Nat.zero_le _,hg',by omega,hcm,by rw [hcs',hcs,Nat.mul_one],?_⟩⟩;rw [hms] at ht';rw [Nat.mul_one,hlen,ht',hflat];exact hS2
end
end Pk
namespace Pk
open Go
theorem tv:True:=⟨⟩
theorem sj {α:Type} {x y:α} (h:some x=some y):x=y:=Option.some.inj h
section
variable {P:Program} {r:Option Nat} {ops:Array Oper} {ms:List Nat} {D:List Deferred} {k:Nat} {M:Prop} {w0:World} {H0:Hp} {Hs:List Hp} {σ:aN} {L0:bX} {pp:List PanicEntry→aP} {i:Nat} {o:Oper} {rest:List Oper} {E:bX} {F:bY} {d:Nat} {v:Value}
theorem dt {fin:bX→bY→Prop} (hd:o.dst=some d) (hX:∀ {K},TG ⟨D,k,M,w0,H0⟩ (K::Hs) σ (GG (o.looksAt ops) E++L0) (O P r ops (fun a' w'=>∃ (_:Unit) (K':Hp),K.le K'∧St M w0 H0 (K'::Hs) σ w'∧a'.tmps[d]?=some v∧a'.defers=D∧True) pp [o]))
  (h:DF P r ops ms D k M w0 H0 Hs σ L0 pp fin (i+1) rest ((d,v)::E) F):DF P r ops ms D k M w0 H0 Hs σ L0 pp fin i (o::rest) E F :=
 .det hd (fun a w K hS hA _=>hX a w hS hA) h
theorem dc {us:List Nat} {T:List (Nat×Nat×Value)} {Sg:Option (Nat→Act→aN)} {fin:aN→bX→bY→Prop} {prev:List (Nat×aN)} (hne:us.contains i=false) (hb:FO us ms i=true) (hp:HP (fun τ=>τ=σ) (ms.getD i 0) prev) (hn:eB T i=true) (hd:o.dst=some d)
  (hX:∀ {K},TG ⟨D,k,M,w0,H0⟩ (K::Hs) σ (GG (o.looksAt ops) E++L0) (O P r ops (fun a' w'=>∃ (_:Unit) (K':Hp),K.le K'∧St M w0 H0 (K'::Hs) σ w'∧a'.tmps[d]?=some v∧a'.defers=D∧True) pp [o]))
  (h:DC P r ops ms D k M w0 H0 Hs L0 pp us T Sg fin prev σ (i+1) rest ((d,v)::E) F):DC P r ops ms D k M w0 H0 Hs L0 pp us T Sg fin prev σ i (o::rest) E F :=
 .det (fun τ=>τ=σ) hne rfl hb hp hn hd (fun τ hτ a w K hS hA _=>by subst hτ;exact hX a w hS hA) h
end
def gd (ops:Array Oper) (L:bX) (j:Nat):Option Value:=((ops[j]?).bind (·.dst)).bind (lk L)
def eb (d k:Nat) (v:Option Value):Option Value:=bif Nat.blt d k then v else none
theorem lK {d k:Nat} {v:Option Value} {u:Value} (h:eb d k v=some u):Nat.blt d k=true∧v=some u:=by
 unfold eb at h
 cases hb:Nat.blt d k with
 | true=>rw [hb] at h;exact ⟨rfl,h⟩
 | false=>rw [hb] at h;cases h
theorem yP {ops:Array Oper} {L:bX} {j:Nat} {v:Value} (h:gd ops L j=some v):∃ dj,(ops[j]?).bind (·.dst)=some dj∧lk L dj=some v:=by
 unfold gd at h
 cases hb:(ops[j]?).bind (·.dst) with
 | none=>rw [hb] at h;cases h
 | some dj=>rw [hb] at h;exact ⟨dj,rfl,h⟩
section
variable {P:Program} {r:Option Nat} {n:aP} {p:List PanicEntry→aP} {ops:Array Oper} {rest:List Oper} {d:Nat} {ty:TypeId} {pos:String} {af:Array Edge} {x:Fr} {Hs:List Hp} {σ:aN} {L:bX}
theorem gt {op:Op} {dst:Option Nat} {j:Nat} {q:Prop} [Decidable q] (hq:q) (hb:gd ops L j=some (.bool (decide q))) (h:OG P r ops n p x Hs σ L (⟨dst,op,ty,pos,af,none⟩::rest)):OG P r ops n p x Hs σ L (⟨dst,op,ty,pos,af,some (j,true)⟩::rest):=by
 obtain ⟨dj,h1,h2⟩:=yP hb;exact gN h1 h2 (decide_eq_true hq) h
theorem gf {op:Op} {j:Nat} {q:Prop} [Decidable q] (hq:¬q) (hb:eb d x.k (gd ops L j)=some (.bool (decide q))) (h:OG P r ops n p x Hs σ ((d,undef)::L) rest):OG P r ops n p x Hs σ L (⟨some d,op,ty,pos,af,some (j,true)⟩::rest):=by
 obtain ⟨hd,hb⟩:=lK hb;obtain ⟨dj,h1,h2⟩:=yP hb;exact gF h1 h2 (decide_eq_false hq) hd h
theorem dG {op:Op} {dst:Option Nat} {j:Nat} {q:Prop} [Decidable q] (hq:¬q) (hb:gd ops L j=some (.bool (decide q))) (h:OG P r ops n p x Hs σ L (⟨dst,op,ty,pos,af,none⟩::rest)):OG P r ops n p x Hs σ L (⟨dst,op,ty,pos,af,some (j,false)⟩::rest):=by
 obtain ⟨dj,h1,h2⟩:=yP hb;exact gN h1 h2 (decide_eq_false hq) h
theorem dH {op:Op} {j:Nat} {q:Prop} [Decidable q] (hq:q) (hb:eb d x.k (gd ops L j)=some (.bool (decide q))) (h:OG P r ops n p x Hs σ ((d,undef)::L) rest):OG P r ops n p x Hs σ L (⟨some d,op,ty,pos,af,some (j,false)⟩::rest):=by
 obtain ⟨hd,hb⟩:=lK hb;obtain ⟨dj,h1,h2⟩:=yP hb;exact gF h1 h2 (decide_eq_true hq) hd h
theorem m1 {y:Operand} {v:Value} (hy:eb d x.k (ev L y)=some v) (h:OG P r ops n p x Hs σ ((d,v)::L) rest):OG P r ops n p x Hs σ L (⟨some d,.move y,ty,pos,af,none⟩::rest):=mv (lK hy).1 (lK hy).2 h
theorem a1 {y:Operand} {v:Value} (hy:eb d x.k (ev L y)=some v) (h:OG P r ops n p x Hs σ ((d,v)::L) rest):OG P r ops n p x Hs σ L (⟨some d,.assign y,ty,pos,af,none⟩::rest):=av (lK hy).1 (lK hy).2 h
theorem pt {c y z:Operand} {q:Prop} [Decidable q] {v:Value} (hq:q) (hc:ev L c=some (.bool (decide q))) (hv:eb d x.k (ev L y)=some v) (h:OG P r ops n p x Hs σ ((d,v)::L) rest):OG P r ops n p x Hs σ L (⟨some d,.pick c y z,ty,pos,af,none⟩::rest):=pT (lK hv).1 hc (decide_eq_true hq) (lK hv).2 h
theorem pf {c y z:Operand} {q:Prop} [Decidable q] {v:Value} (hq:¬q) (hc:ev L c=some (.bool (decide q))) (hv:eb d x.k (ev L z)=some v) (h:OG P r ops n p x Hs σ ((d,v)::L) rest):OG P r ops n p x Hs σ L (⟨some d,.pick c y z,ty,pos,af,none⟩::rest):=pF (lK hv).1 hc (decide_eq_false hq) (lK hv).2 h
theorem cu {M:Prop} {w0:World} {H0:Hp} {D:List Deferred} {k:Nat} {L':bX} (h:OD L L'):∀ a w,St M w0 H0 Hs σ w→aV D k a L→St M w0 H0 Hs σ w∧aV D k a L':=fun a w hS hA=>⟨hS,hA.cut h⟩
end
end Pk
namespace Pk
open Go
abbrev NJ:=Option Addr×Nat
abbrev Hd:=Option Addr×Nat×Nat
section
variable {α:Type}
variable {hd:List Hd} {az:List NJ} {g:List (List α)} {j:Nat} {y z:List α} {ad:Option Addr} {cap:Nat}
variable {el:TypeId} {size:Nat} {enc:α→List Value}
theorem gk {σ:aN} {i b j:Nat} {x:aR} {r:Option aR} (h:Nat.blt i b=true) (k:cE σ (b+j)=r):cE ((i,x)::σ) (b+j)=r:=by
 have:i < b:=by simpa using h
 simp only [cE,dW (show i≠b+j by omega),cond_false,k]
end
section
variable {α:Type} {x:Fr} {Hs:List Hp} {σ:aN} {L:bX} {N:aP} {el:TypeId} {size:Nat} {enc:α→List Value} {az:List NJ} {g:List (List α)}
end
section
variable {P:Program} {r:Option Nat} {n:aP} {p:List PanicEntry→aP} {ops:Array Oper} {rest:List Oper} {d:Nat} {ty:TypeId} {pos:String} {af:Array Edge} {x:Fr} {Hs:List Hp} {σ:aN} {L:bX}
end
end Pk
namespace Pk
open Go Go.Proofs
section
variable {P:Program} {r:Option Nat} {n:aP} {p:List PanicEntry→aP} {ops:Array Oper} {rest:List Oper} {d:Nat} {ty:TypeId} {pos:String} {af:Array Edge} {x:Fr} {Hs:List Hp} {σ:aN} {L:bX}
end
end Pk
namespace Pk
open Go
section
variable {P:Program} {r:Option Nat} {n:aP} {p:List PanicEntry→aP} {ops:Array Oper} {rest:List Oper} {d:Nat} {ty:TypeId} {pos:String} {af:Array Edge} {x:Fr} {Hs:List Hp} {σ:aN} {L:bX}
end
end Pk
namespace Pk
open Go
section
variable {α:Type} {hd:List Hd} {az:List NJ} {g:List (List α)} {j:Nat} {ad:Option Addr} {cap:Nat} {el:TypeId} {size:Nat} {enc:α→List Value}
variable {x:Fr} {Hs:List Hp} {L:bX} {N:aP}
end
end Pk
namespace Pk
open Go Go.Proofs
theorem KY (q:Addr) (a b:Nat):(q.add a).add b=q.add (a+b):=by
 unfold Addr.add;by_cases ha:a=0 <;> by_cases hb:b=0 <;> simp [ha,hb,Nat.add_assoc]
theorem HB {q:Addr} {a b:Nat} {u:Operand} {L:bX} (h:ev L u=some (.pointer (some ((q.add a).add b)))):ev L u=some (.pointer (some (q.add (a+b)))):=by
 rw [h,KY]
theorem CK {q:Addr} {a b c:Nat} {u:Operand} {L:bX} (h:ev L u=some (.pointer (some (((q.add a).add b).add c)))):ev L u=some (.pointer (some (q.add (a+(b+c))))):=by
 rw [h,KY,KY]
section
variable {P:Program} {r:Option Nat} {n:aP} {p:List PanicEntry→aP} {ops:Array Oper} {rest:List Oper} {d:Nat} {ty:TypeId} {pos:String} {af:Array Edge} {x:Fr} {Hs:List Hp} {σ:aN} {L:bX}
end
end Pk
namespace Pk
open Go
section
variable {α:Type} {hd:List Hd} {az:List NJ} {g:List (List α)} {ad:Option Addr} {cap:Nat} {el iel:TypeId} {size:Nat} {enc:α→List Value}
variable {x:Fr} {Hs:List Hp} {σ:aN} {L:bX} {N:aP}
end
end Pk
namespace Pk
open Go
inductive Any where
 | i (n:Int)
 | s (b:aF)
deriving DecidableEq,Inhabited
section
variable {P:Program} {r:Option Nat} {n:aP} {p:List PanicEntry→aP} {ops:Array Oper} {rest:List Oper} {d:Nat} {ty:TypeId} {pos:String} {af:Array Edge} {x:Fr} {Hs:List Hp} {σ:aN} {L:bX}
end
end Pk
namespace Pk
open Go Go.Proofs
theorem PP {a b:Bool} (ha:a=true) (hb:b=true):(a&&b)=true:=by rw [ha,hb];rfl
end Pk
namespace Pk
open Go Go.Proofs
section
variable {P:Program} {r:Option Nat} {n:aP} {p:List PanicEntry→aP} {ops:Array Oper} {rest:List Oper} {d:Nat} {ty:TypeId} {pos:String} {af:Array Edge} {x:Fr} {Hs:List Hp} {σ:aN} {L:bX}
end
end Pk
namespace Pk
open Go Go.Proofs
section
variable {P:Program} {r:Option Nat} {n:aP} {p:List PanicEntry→aP} {ops:Array Oper} {rest:List Oper} {dst:Option Nat} {ty:TypeId} {pos:String} {af:Array Edge} {x:Fr} {Hs:List Hp} {σ:aN} {L:bX}
end
end Pk
namespace Pk
open Go Go.Proofs
section
variable {P:Program} {r:Option Nat} {n rt:aP} {e:List (Nat×aP)} {p:List PanicEntry→aP} {a:Act} {w:World}
variable {D:List Deferred} {k:Nat} {L:bX} {ops:Array Oper} {rest:List Oper} {d:Nat} {ty:TypeId} {pos:String} {af:Array Edge} {dst:Option Nat}
variable {M:Prop} {w0:World} {H0:Hp} {Hs:List Hp} {σ:aN}
end
section
variable {P:Program} {r:Option Nat} {n:aP} {p:List PanicEntry→aP} {ops:Array Oper} {rest:List Oper} {d:Nat} {ty:TypeId} {pos:String} {af:Array Edge} {x:Fr} {Hs:List Hp} {σ:aN} {L:bX}
end
end Pk
namespace Pk
open Go Go.Proofs
end Pk
namespace Pk
open Go Go.Proofs
end Pk
namespace Pk
open Go Go.Proofs
section
variable {P:Program} {r:Option Nat} {n:aP} {p:List PanicEntry→aP} {ops:Array Oper} {rest:List Oper} {d:Nat} {ty:TypeId} {pos:String} {af:Array Edge} {x:Fr} {Hs:List Hp} {σ:aN} {L:bX}
theorem xD {α:Type} (x:α):([x]:List α).length=1:=rfl
end
end Pk
namespace Pk
open Go Go.Proofs
def MK (bs:List Nat):aN:=bs.map fun b=>(1000000,aR.blk b (.deferred (some [])))
theorem nW:∀ {σ:aN},iD σ↔(σ.map Prod.snd).Pairwise apart
 | []=>by simp [iD]
 | (i,x)::σ=>by
  rw [iD,List.map_cons,List.pairwise_cons,nW];constructor
  ·rintro ⟨h1,h2⟩;refine ⟨fun y hy=>?_,h2⟩;obtain ⟨⟨j,z⟩,hz,rfl⟩:=List.mem_map.1 hy;exact h1 j z hz
  rintro ⟨h1,h2⟩;exact ⟨fun j y hy=>h1 y (List.mem_map.2 ⟨(j,y),hy,rfl⟩),h2⟩
theorem St.permO {M:Prop} {w0 w:World} {H0:Hp} {Hs:List Hp} {σ σ':aN} (h:(σ'.map Prod.snd).Perm (σ.map Prod.snd)) (hS:St M w0 H0 Hs σ w):St M w0 H0 Hs σ' w:=by
 have mem:∀ {i x},(i,x)∈σ'→∃ j,(j,x)∈σ:=fun {i x} hx=>by
  have h2:x∈σ.map Prod.snd:=h.subset (List.mem_map.2 ⟨(i,x),hx,rfl⟩);obtain ⟨⟨j,z⟩,hz,rfl⟩:=List.mem_map.1 h2;exact ⟨j,hz⟩
 have mem':∀ {i x},(i,x)∈σ→∃ j,(j,x)∈σ':=fun {i x} hx=>by
  have h2:x∈σ'.map Prod.snd:=h.symm.subset (List.mem_map.2 ⟨(i,x),hx,rfl⟩);obtain ⟨⟨j,z⟩,hz,rfl⟩:=List.mem_map.1 h2;exact ⟨j,hz⟩
 have hv:hQ w0 H0 σ' w=hQ w0 H0 σ w:=by
  funext b
  have:kB σ' b↔kB σ b:=by
   constructor
   ·rintro ⟨i,x,hx,hb⟩;obtain ⟨j,hj⟩:=mem hx;exact ⟨j,x,hj,hb⟩
   rintro ⟨i,x,hx,hb⟩;obtain ⟨j,hj⟩:=mem' hx;exact ⟨j,x,hj,hb⟩
  unfold hQ;by_cases hf:kB σ' b
  ·rw [if_pos hf,if_pos (this.1 hf)]
  rw [if_neg hf,if_neg (fun h=>hf (this.2 h))]
 refine ⟨hS.h0,hS.ext,fun H hH=>by rw [hv];exact hS.le H hH,fun i x hx=>?_,?_⟩
 ·obtain ⟨j,hj⟩:=mem hx;exact hS.own j x hj
 rw [nW];exact h.symm.pairwise (nW.1 hS.apart) (fun hxy=>iE hxy)
section
variable {x:Fr} {Hs:List Hp} {σ:aN} {L:bX} {N:aP}
theorem TG.permO {σ':aN} (hp:(σ'.map Prod.snd).Perm (σ.map Prod.snd)) (h:TG x Hs σ' L N):TG x Hs σ L N:=fun a w hS hA=>h a w (hS.permO hp) hA
theorem nX:∀ {σ:aN} {t:Nat} {o:aR},cE σ t=some o→(o::(fK σ t).map Prod.snd).Perm (σ.map Prod.snd)
 | [],t,o,h=>by simp [cE] at h
 | (i,z)::σ,t,o,h=>by
  by_cases e:i=t
  ·subst e;simp only [cE,fL,cond_true,Option.some.injEq] at h;subst h;simp [fK,fL]
  simp only [cE,dW e,cond_false] at h;simp only [fK,dW e,cond_false,List.map_cons];exact (List.Perm.swap z o _).trans ((nX h).cons z)
theorem TG.absM {A A':aN} {bs:List Nat} (t:Nat) {b:Nat} (hA:cE A t=some (.blk b (.deferred (some [])))) (hA':fK A t=A') (h:TG x Hs (A'++MK (b::bs)) L N):TG x Hs (A++MK bs) L N:=by
 subst hA';refine TG.permO ?_ h;simp only [MK,List.map_cons,List.map_append];refine List.perm_middle.trans ?_;rw [← List.cons_append];exact (nX hA).append_right _
variable {P:Program} {fn:Func} {R:Ending→World→Prop}
theorem PQ {A:aN}:∀ {bs:List Nat},TG x Hs A L (NI P fn R [])→TG x Hs (A++MK bs) L (NI P fn R (bs.map mk1))
 | [],h=>by simpa [MK] using h
 | b::bs,h=>by
  refine TG.permO (σ':=(2000000,.blk b (.deferred (some [])))::(A++MK bs)) ?_ (TI 2000000 rfl (TG.del 2000000 ?_))
  ·simp only [MK,List.map_cons,List.map_append];exact List.perm_middle.symm
  exact PQ h
end
end Pk
namespace Pk
open Go Go.Proofs
section
variable {P:Program} {r:Option Nat} {n:aP} {p:List PanicEntry→aP} {ops:Array Oper} {rest:List Oper} {d:Nat} {ty:TypeId} {pos:String} {af:Array Edge} {x:Fr} {Hs:List Hp} {σ:aN} {L:bX} {N:aP}
variable {κ α:Type} {ke:κ→Value} {enc:α→Value}
variable [DecidableEq κ] {kd:TypeDesc} [rE ke kd]
end
end Pk
namespace Pk
open Go Go.Proofs Go.Sort
section
variable {P:Program} {r:Option Nat} {n:aP} {p:List PanicEntry→aP} {ops:Array Oper} {rest:List Oper} {d:Nat} {ty:TypeId} {pos:String} {af:Array Edge} {x:Fr} {Hs:List Hp} {σ:aN} {L:bX}
end
end Pk
namespace Pk
open Go Go.Proofs
abbrev gV (a b:List Value):List Value:=a++b
theorem bC.arr {H:Hp} {q:Addr} {cs:List Value} (h:bC H q cs) (j:Nat) {v:Value} (hv:cs[j]?=some v):bC H (q.add (j*1)) [v]:=by
 rw [Nat.mul_one];have h1:=h.drop j;refine ⟨h1.1,fun i u hu=>?_⟩
 cases i with
 | zero =>
  simp only [List.getElem?_cons_zero,Option.some.injEq] at hu;subst hu;exact h1.2 0 v (by rw [List.getElem?_drop];simpa using hv)
 | succ i=>simp at hu
section
variable {P:Program} {r:Option Nat} {n:aP} {p:List PanicEntry→aP} {ops:Array Oper} {rest:List Oper} {d:Nat} {ty:TypeId} {pos:String} {af:Array Edge} {x:Fr} {Hs:List Hp} {σ:aN} {L:bX}
theorem UY (tg:Nat) (pre xs:List Value) {xs':List Value} {t t0:TypeId} {y z:Operand} {v:Value} {b j:Nat} (hs:∀ w,(Go.sizeOf t).run P w=.ok 1 w) (hy:ev L y=some (.pointer (some ((⟨b,pre.length,none⟩:Addr).add (j*1))))) (hz:ev L z=some v) (hσ:cE σ tg=some (bF b t0 (pre++xs))) (hv:bT v=[v]) (h1:v.oneCell'=true) (hj:j < xs.length) (hl:xs.set j v=xs') (h:OG P r ops n p x Hs (dY σ tg (bF b t0 (pre++xs'))) L rest):OG P r ops n p x Hs σ L (⟨none,.store t y z,ty,pos,af,none⟩::rest):=fun c w hS hA=>by
 rw [Nat.mul_one,dX rfl] at hy;have hfit:pre.length+j+1≤(pre++xs).length:=by rw [List.length_append];omega
 refine sY tg hA hS hy hz hs hσ hv rfl (by simpa using h1) (Nat.ble_eq_true_of_le hfit) fun w' hS' c hA=>h c w' ?_ hA;have e:lT (pre++xs) (pre.length+j) [v]=pre++xs':=by
  rw [eP _ _ _ (by simpa using hfit),← hl,List.take_append,List.drop_append,List.set_eq_take_append_cons_drop,if_pos hj];simp [List.take_of_length_le,List.drop_eq_nil_of_le,Nat.add_assoc,Nat.add_sub_cancel_left]
 rw [← e];exact hS'
end
end Pk
namespace Pk
open Go Go.Proofs
section
variable {M:Prop} {w0:World} {H0:Hp} {Hs:List Hp} {σ:aN} {w:World}
end
section
variable {P:Program} {r:Option Nat} {n:aP} {p:List PanicEntry→aP} {ops:Array Oper} {rest:List Oper} {d:Nat} {ty:TypeId} {pos:String} {af:Array Edge} {x:Fr} {Hs:List Hp} {σ:aN} {L:bX}
end
end Pk
namespace Pk
open Go Go.Proofs
section
variable {P:Program} {f:FuncId} {args:Array Value} {M:Prop} {W:World} {H:Hp} {α:Type}
end
section
variable {P:Program} {r:Option Nat} {n:aP} {p:List PanicEntry→aP} {ops:Array Oper} {rest:List Oper} {dst:Option Nat} {ty:TypeId} {pos:String} {af:Array Edge} {x:Fr} {Hs:List Hp} {σ:aN} {L:bX}
end
end Pk
namespace Pk
open Go Go.Proofs
section
variable {P:Program} {f:FuncId} {fn:Func} {c:Code} {nt:Nat} {w:World} {R:Ending→World→Prop}
end
section
variable {P:Program} {n:aP} {p:List PanicEntry→aP} {ops:Array Oper} {rest:List Oper} {ty:TypeId} {pos:String} {af:Array Edge} {x:Fr} {Hs:List Hp} {σ:aN} {L:bX} {D:List Deferred} {k:Nat} {M:Prop} {w0:World} {H0:Hp} {fn:Func} {R:Ending→World→Prop}
end
end Pk
namespace Pk
open Go Go.Proofs
section
variable {κ ι β:Type}
variable {ent:ι→β→List aR} {hv:ι→β→Value} {hs:List (κ×Value)} {az:List ι} {m:List (κ×β)}
variable [DecidableEq κ]
theorem CL:∀ {m:List (κ×β)} {k:κ} {y:β},dR m k=some y→∃ j,m[j]?=some (k,y)∧∀ y',put m k y'=m.set j (k,y')
 | [],_,_,h=>by simp [dR] at h
 | (q,z)::m,k,y,h=>by
  by_cases e:k=q
  ·subst e;simp [dR] at h;subst h;exact ⟨0,rfl,fun y'=>by simp [put]⟩
  simp only [dR,if_neg e] at h;obtain ⟨j,h1,h2⟩:=CL h;exact ⟨j+1,by simpa using h1,fun y'=>by simp [put,if_neg e,h2 y']⟩
end
section
variable {x:Fr} {Hs:List Hp} {σ:aN} {L:bX} {N:aP}
end
section
variable {κ α:Type} {ke:κ→Value} {el:TypeId} {size:Nat} {enc:α→List Value}
variable {x:Fr} {Hs:List Hp} {L:bX} {N:aP} {hs:List (κ×Value)} {az:List NJ} {m:List (κ×List α)}
variable [DecidableEq κ]
section
variable {P:Program} {r:Option Nat} {n:aP} {p:List PanicEntry→aP} {ops:Array Oper} {rest:List Oper} {kd:TypeDesc} [rE ke kd]
end
end
section
variable {P:Program} {r:Option Nat} {n:aP} {p:List PanicEntry→aP} {ops:Array Oper} {rest:List Oper} {d:Nat} {ty:TypeId} {pos:String} {af:Array Edge} {x:Fr} {Hs:List Hp} {σ:aN} {L:bX}
end
section
variable {P:Program} {r:Option Nat} {n:aP} {p:List PanicEntry→aP} {ops:Array Oper} {rest:List Oper} {d:Nat} {ty:TypeId} {pos:String} {af:Array Edge} {x:Fr} {Hs:List Hp} {σ:aN} {L:bX}
end
end Pk
namespace Pk
open Go Go.Proofs
section
variable {κ ι β:Type} {ent:ι→β→List aR} {hv:ι→β→Value} {hs:List (κ×Value)} {az:List ι} {m:List (κ×β)}
variable {x:Fr} {Hs:List Hp} {L:bX} {N:aP}
end
section
variable {S ρ:Type}
variable {n:Nat} {step:S→Nat→Option (S⊕ρ)} {Kf:S→Option ρ} {s0:S} {z:ρ}
variable {seen:List Nat} {s:S}
end
section
variable {P:Program} {r0:Option Nat} {nn rt:aP} {e:List (Nat×aP)} {p:List PanicEntry→aP} {ops:Array Oper} {rest:List Oper} {d:Nat} {ty:TypeId} {pos:String} {af:Array Edge} {x:Fr} {Hs:List Hp} {σ:aN} {L:bX}
variable {κ:Type} {ke:κ→Value} {hs:List (κ×Value)} {b n:Nat}
end
end Pk
namespace Pk
open Go Go.Proofs
section
variable {P:Program} {r:Option Nat} {n:aP} {p:List PanicEntry→aP} {ops:Array Oper} {rest:List Oper} {d:Nat} {ty:TypeId} {pos:String} {af:Array Edge} {x:Fr} {Hs:List Hp} {σ:aN} {L:bX}
theorem St.mk1 {M:Prop} {w0 w:World} {H0 V:Hp} (hS:St M w0 H0 Hs σ w) (hV:V=hQ w0 H0 σ w):St M w0 H0 [V] σ w:=⟨hS.h0,hS.ext,fun H hH=>(by
 rcases List.mem_cons.1 hH with rfl | h
 ·rw [hV];exact Hp.le.refl _
 cases h),hS.own,hS.apart⟩
end
section
variable {P:Program} {n:aP} {p:List PanicEntry→aP} {ops:Array Oper} {rest:List Oper} {d:Nat} {ty:TypeId} {pos:String} {af:Array Edge} {x:Fr} {Hs:List Hp} {σ:aN} {L:bX}
end
end Pk
namespace Pk
open Go Go.Proofs
section
variable {P:Program} {r:Option Nat} {n:aP} {p:List PanicEntry→aP} {ops:Array Oper} {rest:List Oper} {d:Nat} {ty:TypeId} {pos:String} {af:Array Edge} {x:Fr} {Hs:List Hp} {σ:aN} {L:bX}
end
section
variable {M:Prop} {w0 w:World} {H0:Hp} {Hs:List Hp} {α:Type} {ad:Option Addr} {cap:Nat} {el:TypeId} {size:Nat} {enc:α→List Value} {l l':List α} {t:Nat} {σ:aN}
end
end Pk
namespace Pk
open Go
section
variable {x:Fr} {Hs:List Hp} {σ:aN} {L:bX} {N:aP} {ty:TypeId} {cs:List Value} {b:Nat} {K:Hp}
end
section
variable {P:Program} {r:Option Nat} {n:aP} {p:List PanicEntry→aP} {ops:Array Oper} {rest:List Oper} {d:Nat} {ty:TypeId} {pos:String} {af:Array Edge} {x:Fr} {A:Hp} {Hs:List Hp} {σ:aN} {L:bX}
end
end Pk
namespace Pk
open Go
section
variable {x:Fr} {Hs:List Hp} {σ:aN} {L:bX} {N:aP}
end
end Pk
namespace Pk
open Go Go.Proofs
section
variable {P:Program} {r:Option Nat} {n:aP} {p:List PanicEntry→aP} {ops:Array Oper} {rest:List Oper} {d:Nat} {ty:TypeId} {pos:String} {af:Array Edge} {x:Fr} {Hs:List Hp} {σ:aN} {L:bX}
end
end Pk
namespace Pk
open Go Go.Proofs
section
variable {P:Program} {r:Option Nat} {n:aP} {p:List PanicEntry→aP} {ops:Array Oper} {rest:List Oper} {d:Nat} {ty:TypeId} {pos:String} {af:Array Edge} {x:Fr} {Hs:List Hp} {σ:aN} {L:bX}
end
end Pk
namespace Pk
open Go Go.Proofs
section
variable {P:Program} {n:aP} {p:List PanicEntry→aP} {ops:Array Oper} {rest:List Oper} {dst:Option Nat} {ty:TypeId} {pos:String} {af:Array Edge} {x:Fr} {Hs:List Hp} {σ:aN} {L:bX} {r:Option Nat}
end
end Pk
namespace Pk
open Go Go.Proofs
section
variable {P:Program} {a:Act} {w:World} {k:Nat} {L:bX}
end
end Pk
namespace Pk
open Go Go.Proofs
section
variable {P:Program} {r:Option Nat} {n:aP} {p:List PanicEntry→aP} {ops:Array Oper} {rest:List Oper} {d:Nat} {ty:TypeId} {pos:String} {af:Array Edge} {x:Fr} {Hs:List Hp} {σ:aN} {L:bX}
end
end Pk
namespace Pk
open Go Go.Proofs
def CM (M:Prop) (w0:World) (H0 V:Hp) (B:aN) (Φ:Ending→Hp→aN→Prop):Ending→World→Prop:=fun e w'=>∃ K A',St M w0 H0 [K,V] (A'++B) w'∧Φ e K A'
section
variable {P:Program} {r:Option Nat} {n:aP} {p:List PanicEntry→aP} {ops:Array Oper} {rest:List Oper} {dst:Option Nat} {ty:TypeId} {pos:String} {af:Array Edge} {x:Fr} {Hs:List Hp} {σ:aN} {L:bX} {N:aP}
theorem TG.front (t:Nat) {o:aR} (h0:cE σ t=some o) (h:TG x Hs ((t,o)::fK σ t) L N):TG x Hs σ L N:=TG.permO (by simpa using nX h0) h
def UZ (P:Program) (r:Option Nat) (ops:Array Oper) (n:aP) (p:List PanicEntry→aP) (rest:List Oper) (dst:Option Nat) (e:Ending):aP:=fun a w=>match e with
 | .returned v=>O P r ops n p rest (a.put dst v) w
 | .panicked ch=>p ch a w
 | .outgrown=>False
theorem VA {v:Value} {a:Act} {w:World} (h:O P r ops n p rest (a.put dst v) w):UZ P r ops n p rest dst (.returned v) a w:=h
theorem VB (A:aN) {B:aN} {y:Operand} {xs:List Operand} {ats:Array TypeId} {f:FuncId} {first cap:List Value} {vs args:List Value} {fv:Value} {Φ:Ending→Hp→aN→Prop} (hσ:(A++B).map Prod.snd=σ.map Prod.snd) (hcall:∀ args w,(callFunc f args).run P w=.ok (.enter f args) w) (hf:ev L y=some fv) (hfv:fv=.func (.func f) first.toArray cap.toArray) (hxs:oV L xs=some vs) (hargs:first++vs++cap=args)
  (hc:∀ w V,St x.M x.w0 x.H0 [V] (A++B) w→wZ Hs V→Calls P f args.toArray w (CM x.M x.w0 x.H0 V B Φ))
  (h:∀ e K A' a w,Φ e K A'→St x.M x.w0 x.H0 (K::Hs) (A'++B) w→aV x.D x.k a L→UZ P r ops n p rest dst e a w):OG P r ops n p x Hs σ L (⟨dst,.call ⟨.value y,xs.toArray,ats⟩,ty,pos,af,none⟩::rest):=fun a w hS hA=>by
 subst hargs;subst hfv;have hS1:St x.M x.w0 x.H0 Hs (A++B) w:=hS.permO (by rw [hσ]);obtain ⟨V,hV⟩:∃ V,V=hQ x.w0 x.H0 (A++B) w:=⟨_,rfl⟩;have hle:∀ (i:Nat) (K:Hp),Hs[i]?=some K→K.le V:=fun i K hi=>by rw [hV];exact hS1.at i hi
 have key:∀ e w',CM x.M x.w0 x.H0 V B Φ e w'→UZ P r ops n p rest dst e a w':=by
  rintro e w' ⟨K,A',hS',hΦ⟩;refine h e K A' a w' hΦ ⟨hS'.h0,hS'.ext,fun H hH=>?_,hS'.own,hS'.apart⟩ hA;rcases List.mem_cons.1 hH with rfl | hH
  ·exact hS'.le _ List.mem_cons_self
  obtain ⟨i,hi⟩:=List.getElem?_of_mem hH;exact (hle i H hi).trans (hS'.le _ (List.mem_cons_of_mem _ List.mem_cons_self))
 refine mK rfl (fun _ h=>by cases h) (kC hA hf hxs hcall) (by simpa using hc w V (hS1.mk1 hV) hle) ?_ ?_ ?_
 ·exact fun v w' h=>key _ w' h
 ·exact fun ch w' h=>key _ w' h
 exact fun w' h=>(key _ w' h).elim
theorem St.below {M:Prop} {w0 w:World} {H0 V:Hp} {Hs:List Hp} {σ:aN} (hS:St M w0 H0 [V] σ w) (hV:wZ Hs V):St M w0 H0 (V::Hs) σ w:=⟨hS.h0,hS.ext,fun H hH=>(by
 rcases List.mem_cons.1 hH with rfl | h
 ·exact hS.le _ List.mem_cons_self
 obtain ⟨i,hi⟩:=List.getElem?_of_mem h
 exact (hV i H hi).trans (hS.le _ List.mem_cons_self)),hS.own,hS.apart⟩
end
end Pk
namespace Pk
theorem wZ.sel {Hs Hs':List Hp} {V:Hp} (h:wZ Hs V) (is:List Nat) (hi:qB Hs is=Hs'):wZ Hs' V:=fun i K hK=>by
 subst hi;obtain ⟨j,hj⟩:=List.getElem?_of_mem (kW (List.mem_of_getElem? hK));exact h j K hj
end Pk
namespace Pk
open Go Go.Proofs
end Pk
namespace Pk
open Go Go.Proofs
section
variable {κ α:Type}
variable {R:Hp→List Value→α→Prop} {K K':Hp} {hs:List (κ×Value)} {m:List (κ×α)}
variable [DecidableEq κ]
end
section
variable {κ α:Type} {ke:κ→Value} {R:Hp→List Value→α→Prop} {K K':Hp} {v:Value} {m:List (κ×α)}
end
section
variable {P:Program} {r:Option Nat} {n:aP} {p:List PanicEntry→aP} {ops:Array Oper} {rest:List Oper} {d:Nat} {ty:TypeId} {pos:String} {af:Array Edge} {x:Fr} {Hs:List Hp} {σ:aN} {L:bX} {N:aP}
end
end Pk
namespace Pk
open Go Go.Proofs
section
variable {α:Type}
theorem tJ {a b:List Value} {f:Value→Bool} (h:a.all f=true) (h2:b.all f=true):(gV a b).all f=true:=by rw [gV,List.all_append,h,h2];rfl
theorem jG {a b:List Value} {m n k:Nat} (h:a.length=m) (h2:b.length=n) (hk:m+n=k):(gV a b).length=k:=by rw [gV,List.length_append,h,h2,hk]
variable {R:Hp→List Value→α→Prop} {size n:Nat} {K K':Hp} {hs:List NJ} {m:List (List α)}
end
end Pk
namespace Pk
open Go Go.Proofs
end Pk
namespace Pk
open Go Go.Proofs
section
variable {P:Program} {r:Option Nat} {n:aP} {p:List PanicEntry→aP} {ops:Array Oper} {rest:List Oper} {d:Nat} {ty:TypeId} {pos:String} {af:Array Edge} {x:Fr} {Hs:List Hp} {σ:aN} {L:bX}
end
end Pk
namespace Pk
open Go Go.Proofs
section
variable {P:Program} {r:Option Nat} {n:aP} {p:List PanicEntry→aP} {ops:Array Oper} {rest:List Oper} {d:Nat} {ty:TypeId} {pos:String} {af:Array Edge} {x:Fr} {Hs:List Hp} {σ:aN} {L:bX}
theorem PR:∀ (l cs:List Value),l.length=cs.length→lT l 0 cs=cs
 | [],[],_=>rfl
 | _::l,c::cs,h=>by simp only [lT,PR l cs (by simpa using h)]
theorem vD (tg:Nat) {t t0:TypeId} {y z:Operand} {v:Value} {cs l:List Value} {b s:Nat} (hs:∀ w,(Go.sizeOf t).run P w=.ok s w) (hy:ev L y=some (.pointer (some ⟨b,0,none⟩))) (hz:ev L z=some v) (hσ:cE σ tg=some (bF b t0 l)) (hv:bT v=cs) (hcl:cs.length=s) (h1:cs.all (·.oneCell')=true) (hl:l.length=s) (h:OG P r ops n p x Hs (dY σ tg (bF b t0 cs)) L rest):OG P r ops n p x Hs σ L (⟨none,.store t y z,ty,pos,af,none⟩::rest) :=
 fY tg hs hy hz hσ hv hcl h1 (by simp [hl]) (by rw [PR l cs (hl.trans hcl.symm)];exact h)
end
end Pk
namespace Pk
open Go Go.Proofs
section
variable {P:Program} {r:Option Nat} {n:aP} {p:List PanicEntry→aP} {ops:Array Oper} {rest:List Oper} {d:Nat} {ty:TypeId} {pos:String} {af:Array Edge} {x:Fr} {Hs:List Hp} {σ:aN} {L:bX}
theorem CN {M:Prop} {f:FuncId} {fn:Func} {c:Code} {nt:Nat} {w w0:World} {H0:Hp} {R:Ending→World→Prop} {l:List Value} (hf:P.funcs[f]?=some fn) (hb:fn.body=some c) (hn:fn.ntmps=nt) (hl:Nat.ble l.length nt=true) (hS:St M w0 H0 Hs σ w)
  (h:TG ⟨[],nt,M,w0,H0⟩ Hs σ (jC 0 l) (W P none c (JC P fn R) (JC P fn R) [] (fun _ _ _=>False))):Calls P f l.toArray w R :=
 CB hf hb hn hl fun a hA=>h a w hS hA
end
end Pk
namespace Pk
open Go
abbrev gS {α:Type} (R:Hp→List Value→α→Prop) (size:Nat) (l:List α):Option Addr×Nat→Hp→Prop:=fun q K=>Sl R size K q.1 q.2 l
section
variable {P:Program} {r:Option Nat} {ops:Array Oper} {ms:List Nat} {D:List Deferred} {k:Nat} {M:Prop} {w0:World} {H0:Hp} {Hs:List Hp} {σ:aN} {L0:bX} {pp:List PanicEntry→aP} {i:Nat} {o:Oper} {rest:List Oper} {E:bX} {F:bY} {d:Nat} {v:Value}
abbrev Cn (D:List Deferred) (M:Prop) (w0:World) (H0:Hp) (Hs:List Hp) (d:Nat) (K:Hp) {α:Type} (σ1:α→aN) (f:α→Value) (G:α→Hp→Prop):aP:=fun a' w'=>∃ (x:α) (K':Hp),K.le K'∧St M w0 H0 (K'::Hs) (σ1 x) w'∧a'.tmps[d]?=some (f x)∧a'.defers=D∧G x K'
section
variable {us:List Nat} {T:List (Nat×Nat×Value)} {Sg:Option (Nat→Act→aN)} {prev:List (Nat×aN)}
theorem dA {fin:aN→bX→bY→Prop} (hd:o.dst=some d)
  (hX:∀ {K:Hp} {τ:aN},TG ⟨D,k,M,w0,H0⟩ (K::Hs) τ (GG (o.looksAt ops) E++L0) (O P r ops (Cn D M w0 H0 Hs d K (fun _:Unit=>τ) (fun _=>v) (fun _ _=>True)) pp [o]))
  (h:DC P r ops ms D k M w0 H0 Hs L0 pp us T Sg fin prev σ (i+1) rest ((d,v)::E) F) (hne:us.contains i=false:=by rfl) (hn:eB T i=true:=by rfl):DC P r ops ms D k M w0 H0 Hs L0 pp us T Sg fin prev σ i (o::rest) E F :=
 .detA hne hn hd (fun _ a w _ hS hA _=>hX a w hS hA) h
end
end
end Pk
namespace Pk
open Go
section
variable {P:Program} {r:Option Nat} {n rt:aP} {e:List (Nat×aP)} {p:List PanicEntry→aP} {ops:Array Oper} {rest:List Oper} {d:Nat} {ty:TypeId} {pos:String} {af:Array Edge} {x:Fr} {Hs:List Hp} {σ:aN} {L:bX}
end
section
variable {P:Program} {fn:Func} {M:Prop} {w0:World} {H0:Hp} {k:Nat} {Hs:List Hp} {σ:aN} {L:bX}
end
section
variable {P:Program} {r:Option Nat} {n rt:aP} {e:List (Nat×aP)} {p:List PanicEntry→aP} {D:List Deferred} {k:Nat} {M:Prop} {w0:World} {H0:Hp} {Hs:List Hp} {σ:aN} {L:bX}
end
section
variable {P:Program} {r:Option Nat} {n rt:aP} {e:List (Nat×aP)} {p:List PanicEntry→aP} {x:Fr} {Hs:List Hp} {σ:aN} {L L0:bX}
end
section
variable {P:Program} {r:Option Nat} {ops:Array Oper} {ms:List Nat} {D:List Deferred} {k:Nat} {M:Prop} {w0:World} {H0:Hp} {Hs:List Hp} {σ:aN} {L0:bX} {pp:List PanicEntry→aP} {i:Nat} {rest:List Oper} {E:bX} {F:bY} {d:Nat} {v:Value}
end
end Pk
namespace Pk
open Go Go.Proofs
section
variable {P:Program} {n rt:aP} {e:List (Nat×aP)} {p:List PanicEntry→aP} {D:List Deferred} {k:Nat} {M:Prop} {w0:World} {H0:Hp} {Hs:List Hp} {σ:aN} {L:bX} {all:List Oper}
def AN (P:Program) (n rt:aP) (e:List (Nat×aP)) (p:List PanicEntry→aP) (all:List Oper) (ls:Array Bool):aP:=fun a w=>ls.size=all.length→∀ fuel,uJ ls all.length≤fuel→wpAnyIn (FW none) 0 P .any all.toArray (Q n rt e p) fuel ls a w
theorem PS {id:Nat} (hmix:P.follows .mixedOrders=true) (h:TG ⟨D,k,M,w0,H0⟩ Hs σ L (AN P n rt e p all (Array.replicate all.length false))):TG ⟨D,k,M,w0,H0⟩ Hs σ L (W P none (.region id all.toArray true) n rt e p):=fun a w hS hA=>by
 refine wpIn_region_any hmix ?_;have:=h a { w with drawn:=w.drawn+1 } hS.drew hA (by simp) all.toArray.size (by unfold uJ;exact Nat.le_trans List.countP_le_length (by simp));simpa using this
theorem yQ {ls:Array Bool} (rs:List Nat) (hr:Region.ready .any all.toArray ls=rs) (hne:rs≠[]) (h:∀ i∈rs,∀ o,all[i]?=some o→TG ⟨D,k,M,w0,H0⟩ Hs σ L (O P none all.toArray (AN P n rt e p all (ls.setIfInBounds i true)) p [o])):TG ⟨D,k,M,w0,H0⟩ Hs σ L (AN P n rt e p all ls):=fun a w hS hA hsz fuel hu=>by
 obtain ⟨i0,hi0⟩:=List.exists_mem_of_ne_nil rs hne;have hrd:∀ i∈rs,∃ o,all[i]?=some o∧i < all.length∧ls.getD i false=false:=fun i hi=>by
  rw [← hr] at hi;obtain ⟨h0,o,ho,_⟩:=mem_ready.1 hi;have ho':all[i]?=some o:=by simpa using ho
  have hlt:i < all.length:=(List.getElem?_eq_some_iff.1 ho').1
  have:i < ls.size:=by omega
  refine ⟨o,ho',hlt,?_⟩;simp [this] at h0 ⊢;exact h0
 have hun:∀ i∈rs,uJ (ls.setIfInBounds i true) all.length+1≤uJ ls all.length:=fun i hi=>by
  obtain ⟨o,_,hlt,hl⟩:=hrd i hi;exact mU hlt (by omega) hl
 obtain ⟨f,rfl⟩:∃ f,fuel=f+1:=⟨fuel - 1,by have:=hun i0 hi0;omega⟩;refine wpAnyIn_all hr hne fun i hi=>?_;obtain ⟨o,ho,_,_⟩:=hrd i hi;have:=hun i hi;exact iO (ops:=all.toArray) (by simpa using ho) (fun _ _ _ h=>h) (h i hi o ho a w hS hA) (fun a' w' hc=>hc (by simpa using hsz) f (by omega))
theorem aX {ls:Array Bool} (i:Nat) (o:Oper) (hr:Region.ready .any all.toArray ls=[i]) (ho:all[i]?=some o) (h:TG ⟨D,k,M,w0,H0⟩ Hs σ L (O P none all.toArray (AN P n rt e p all (ls.setIfInBounds i true)) p [o])):TG ⟨D,k,M,w0,H0⟩ Hs σ L (AN P n rt e p all ls) :=
 yQ [i] hr (by simp) fun j hj o' ho'=>by
  obtain rfl:j=i:=by simpa using hj
  obtain rfl:o'=o:=Option.some.inj (ho'.symm.trans ho);exact h
theorem cI {ls:Array Bool} (i j:Nat) (o q:Oper) (hr:Region.ready .any all.toArray ls=[i,j]) (ho:all[i]?=some o) (hq:all[j]?=some q) (h1:TG ⟨D,k,M,w0,H0⟩ Hs σ L (O P none all.toArray (AN P n rt e p all (ls.setIfInBounds i true)) p [o])) (h2:TG ⟨D,k,M,w0,H0⟩ Hs σ L (O P none all.toArray (AN P n rt e p all (ls.setIfInBounds j true)) p [q])):TG ⟨D,k,M,w0,H0⟩ Hs σ L (AN P n rt e p all ls) :=
 yQ [i,j] hr (by simp) fun t ht o' ho'=>by
  rcases List.mem_cons.1 ht with rfl | ht
  ·obtain rfl:o'=o:=Option.some.inj (ho'.symm.trans ho);exact h1
  obtain rfl:t=j:=by simpa using ht
  obtain rfl:o'=q:=Option.some.inj (ho'.symm.trans hq);exact h2
theorem cW {ls:Array Bool} (t d:Nat) {o:Oper} {v:Value} (hp:∀ c (d:Nat) v a w,p c (a.put (some d) v) w→p c a w) (hns:Region.noSelect all.toArray=true) (ho:all.toArray[t]?=some o) (hd:o.dst=some d) (hdk:Nat.blt d k=true) (hg:∀ y,Region.wanted o y=true) (hf:Region.free .any all.toArray ls t=true) (hr:(Region.ready .any all.toArray ls).contains t=true) (hab:∀ a w,o.about P w a=none) (hy:YL P D k L o v)
  (h:TG ⟨D,k,M,w0,H0⟩ Hs σ ((d,v)::L) (AN P n rt e p all (ls.setIfInBounds t true))):TG ⟨D,k,M,w0,H0⟩ Hs σ L (AN P n rt e p all ls):=fun a w hS hA hsz fuel hu=>by
 obtain ⟨h0,oi,hoi,_⟩:=mem_ready.1 (by simpa using hr:t∈Region.ready .any all.toArray ls);have hlt:t < all.length:=by have:=(Array.getElem?_eq_some_iff.1 hoi).1;simpa using this
 have hls:t < ls.size:=by omega
 have hun:=mU hlt hls (by simp [hls] at h0 ⊢;exact h0);obtain ⟨f,rfl⟩:∃ f,fuel=f+1:=⟨fuel - 1,by omega⟩;refine wpAnyIn_take rfl ho hns hf hr (fun c a w h=>hp c d v a w (by rw [hd] at h;exact h)) ⟨.inl ⟨hg _,fun w=>hy a w hA⟩,fun w=>hab _ w⟩ ?_;rw [hd];exact h (a.put (some d) v) w hS (hA.put hdk v) (by simpa using hsz) f (by omega)
theorem cH {ls:Array Bool} (hr:Region.ready .any all.toArray ls=[]) (h:TG ⟨D,k,M,w0,H0⟩ Hs σ L n):TG ⟨D,k,M,w0,H0⟩ Hs σ L (AN P n rt e p all ls):=fun a w hS hA _ fuel _=>wpAnyIn_done hr (h a w hS hA) fuel
end
end Pk
namespace Pk
open Go Go.Proofs
structure oX (P:Program) (kt:TypeId) {κ:Type} [DecidableEq κ] (ke:κ→Value):Prop where
 check:∀ w e s,(Instr.checkKey e 10000 kt (ke s)).run P w=.ok () w
 now:∃ kd,P.underlying kt=some kd∧∀ a b,Instr.sameNow kd (ke a) (ke b)=none
 eq:∀ w a b,(Op.equal kt (ke a) (ke b)).run P w=.ok (decide (a=b)) w
 stays:∀ w s,(Instr.keyThatStays (ke s) (ke s)).run P w=.ok (ke s) w
section
variable {κ α:Type} [DecidableEq κ] {P:Program} {kt:TypeId} {ke:κ→Value} {enc:α→Value}
theorem oX.ask (K:oX P kt ke) (w:World) (s:κ):∀ (m:List (κ×α)) (i j:Nat),(dR m s=none∧(Instr.findAsking kt (ke s) (dQ ke enc m i) j).run P w=.ok none w∧∀ y,put m s y=m++[(s,y)]) ∨
  ∃ x h,dR m s=some x∧(Instr.findAsking kt (ke s) (dQ ke enc m i) j).run P w=.ok (some (j+h,enc x)) w∧h < m.length∧(dQ ke enc m i)[h]?=some { key:=ke s,val:=enc x,born:=i+h } ∧
   ∀ y,dQ ke enc (put m s y) i=(dQ ke enc m i).set h { key:=ke s,val:=enc y,born:=i+h }∧(put m s y).length=m.length
 | [],i,j=>.inl ⟨rfl,rfl,fun _=>rfl⟩
 | (k,x)::m,i,j=>by
  simp only [dQ,Instr.findAsking,dR,put,Sem.run_bind,K.eq,Result.andThen];by_cases h:s=k
  ·subst h;refine .inr ⟨x,0,by simp,by simp,by simp,by simp,fun y=>by simp [dQ]⟩
  rcases K.ask w s m (i+1) (j+1) with ⟨h1,h2,h3⟩ | ⟨x',g,h1,h2,h3,h4,h5⟩
  ·refine .inl ⟨by simp [h,h1],by simp [h,h2],fun y=>by simp [h,h3 y]⟩
  refine .inr ⟨x',g+1,by simp [h,h1],by simp [h,h2];omega,by simp;omega,by simp [h4];omega,fun y=>?_⟩;obtain ⟨h6,h7⟩:=h5 y;simp only [h,if_false,dQ,h6,List.length_cons,h7,and_true,List.set_cons_succ];rw [show i+1+g=i+(g+1) by omega]
theorem oX.find (K:oX P kt ke) (w:World) (s:κ) (m:List (κ×α)):(dR m s=none∧(Instr.findKey kt (ke s) (dQ ke enc m 0)).run P w=.ok none w∧∀ y,put m s y=m++[(s,y)]) ∨
  ∃ x h,dR m s=some x∧(Instr.findKey kt (ke s) (dQ ke enc m 0)).run P w=.ok (some (h,enc x)) w∧h < m.length∧(dQ ke enc m 0)[h]?=some { key:=ke s,val:=enc x,born:=0+h } ∧
   ∀ y,dQ ke enc (put m s y) 0=(dQ ke enc m 0).set h { key:=ke s,val:=enc y,born:=0+h }∧(put m s y).length=m.length:=by
 obtain ⟨kd,hk,hn⟩:=K.now;have e:(Instr.findKey kt (ke s) (dQ ke enc m 0)).run P w=(Instr.findAsking kt (ke s) (dQ ke enc m 0) 0).run P w:=by
  cases m with
  | nil=>simp [Instr.findKey,run_underlying hk,Result.andThen,dQ,Instr.findNow,Instr.findAsking]
  | cons p m=>simp [Instr.findKey,run_underlying hk,Result.andThen,dQ,Instr.findNow,hn]
 rw [e];rcases K.ask (enc:=enc) w s m 0 0 with h | ⟨x,g,h1,h2,h3⟩
 ·exact .inl h
 exact .inr ⟨x,g,h1,by rw [h2,Nat.zero_add],h3⟩
theorem oX.lookup (K:oX P kt ke) {w:World} {t et:TypeId} {v z:Value} {m:List (κ×α)} (s:κ) (c:Bool) (hu:P.underlying t=some (.map kt et)) (hz:∀ w,(zeroValue et).run P w=.ok z w) (hm:Mp ke enc (hp w) v m) :
  (Instr.lookup t v (ke s) c).run P w=.ok (if c then .tuple [((dR m s).map enc).getD z,.bool (dR m s).isSome].toArray else ((dR m s).map enc).getD z) w:=by
 have hck:=fun e=>K.check w e s;rcases hm with ⟨b,rfl,hb⟩ | ⟨rfl,rfl⟩
 ·have hobj:(getObj b).run P w=.ok (.map (dQ ke enc m 0).toArray m.length) w:=MapKept.run_getObj_map hb;rcases K.find (enc:=enc) w s m with ⟨h1,h2,_⟩ | ⟨y,g,h1,h2,_⟩
  ·cases c <;> simp [Instr.lookup,run_underlying hu,hobj,hck,h2,hz,h1]
  cases c <;> simp [Instr.lookup,run_underlying hu,hobj,hck,h2,h1]
 have h2:(Instr.findKey kt (ke s) []).run P w=.ok none w:=by
  obtain ⟨kd,hk,hn⟩:=K.now;simp [Instr.findKey,run_underlying hk,Result.andThen,Instr.findNow]
 cases c <;> simp [Instr.lookup,run_underlying hu,hck,h2,hz,dR]
end
section
variable {P:Program} {r:Option Nat} {n:aP} {p:List PanicEntry→aP} {ops:Array Oper} {rest:List Oper} {d:Nat} {ty:TypeId} {pos:String} {af:Array Edge} {x:Fr} {Hs:List Hp} {σ:aN} {L:bX} {N:aP}
variable {κ α:Type} {ke:κ→Value} {enc:α→Value} [DecidableEq κ]
theorem VC (s:κ) {z0:α} {t kt et:TypeId} (K:oX P kt ke) {y i:Operand} {v z:Value} {m:List (κ×α)} (hu:P.underlying t=some (.map kt et)) (hz:∀ w,(zeroValue et).run P w=.ok z w) (hd:Nat.blt d x.k=true) (hy:ev L y=some v) (hi:ev L i=some (ke s)) (hz0:enc z0=z) (hm:Ms x Hs σ ke enc v m)
  (h:OG P r ops n p x Hs σ ((d,.tuple [enc ((dR m s).getD z0),.bool (dR m s).isSome].toArray)::L) rest):OG P r ops n p x Hs σ L (⟨some d,.lookup t y i true,ty,pos,af,none⟩::rest):=fun c w hS hA=>by
 subst hz0;have e1:((dR m s).map enc).getD (enc z0)=enc ((dR m s).getD z0):=by cases dR m s <;> rfl
 have:=K.lookup (w:=w) s true hu hz (hm w hS);rw [e1] at this;exact cO rfl (fun _ h=>by cases h) (by simp [execOp,hA.eval hy,hA.eval hi,this]) (h _ w hS (hA.put hd _))
theorem VD (tg:Nat) (s:κ) (y:α) {t kt et:TypeId} (K:oX P kt ke) {u i v:Operand} {b:Nat} {m:List (κ×α)} (hu:P.underlying t=some (.map kt et)) (hx:ev L u=some (.map (some b))) (hi:ev L i=some (ke s)) (hv:ev L v=some (enc y)) (hσ:cE σ tg=some (aR.map' ke enc b m))
  (h:OG P r ops n p x Hs (dY σ tg (aR.map' ke enc b (put m s y))) L rest):OG P r ops n p x Hs σ L (⟨none,.mapUpdate t u i v,ty,pos,af,none⟩::rest):=fun c w hS hA=>by
 have hb:w.heap[b]?=some (.map (dQ ke enc m 0).toArray m.length):=hS.get hσ;have hck:=fun e=>K.check w e s;have hset:=fun o=>MapKept.run_setObj_map (P:=P) o hb;have hlt:b < w.heap.size:=(Array.getElem?_eq_some_iff.1 hb).1
 have hgr:∀ o,rL w { w with heap:=w.heap.setIfInBounds b o } (some b):=fun o=>⟨⟨rfl,rfl,rfl,by simp,fun j _ hne=>by
  show (w.heap.setIfInBounds b _)[j]?=_
  exact Array.getElem?_setIfInBounds_ne (fun e=>hne (by rw [e]))⟩,Nat.le_refl _⟩
 rcases K.find (enc:=enc) w s m with ⟨_,h2,h3⟩ | ⟨z,g,_,h2,h3,h4,h5⟩
 ·refine nK rfl (fun _ h=>by cases h) (w':={ w with heap:=w.heap.setIfInBounds b (.map ((dQ ke enc m 0).toArray.push { key:=ke s,val:=enc y,born:=m.length }) (m.length+1)) }) ?_ ?_
  ·simp [execOp,Instr.mapUpdate,hA.eval hx,hA.eval hi,hA.eval hv,run_underlying hu,MapKept.run_getObj_map hb,hck,h2,hset]
  refine h _ _ (hS.step hσ (hgr _) ?_ (fun b' hb'=>.inl hb')) hA;show (w.heap.setIfInBounds b _)[b]?=_;have e:=nO (ke:=ke) (enc:=enc) s y m 0;rw [h3 y];simp only [Array.getElem?_setIfInBounds_self_of_lt hlt,e];simp
 obtain ⟨h6,h7⟩:=h5 y;refine nK rfl (fun _ h=>by cases h) (w':={ w with heap:=w.heap.setIfInBounds b (.map ((dQ ke enc m 0).set g { key:=ke s,val:=enc y,born:=g }).toArray m.length) }) ?_ ?_
 ·have hlen:=kJ ke enc m 0;have hmodL:(dQ ke enc m 0).modify g (fun e=>{ key:=ke s,val:=enc y,born:=e.born })=(dQ ke enc m 0).set g { key:=ke s,val:=enc y,born:=g }:=by
   apply List.ext_getElem?;intro i;rw [List.getElem?_modify];by_cases e:g=i
   ·subst e;rw [h4];simp [hlen,h3]
   simp [e,List.getElem?_set_ne e]
  have hj0:(dQ ke enc m 0)[g]?=some { key:=ke s,val:=enc z,born:=0+g }:=h4;simp [execOp,Instr.mapUpdate,hA.eval hx,hA.eval hi,hA.eval hv,run_underlying hu,MapKept.run_getObj_map hb,hck,h2,hj0,K.stays,hset];rw [hmodL]
 refine h _ _ (hS.step hσ (hgr _) ?_ (fun b' hb'=>.inl hb')) hA;show (w.heap.setIfInBounds b _)[b]?=_;simp only [Array.getElem?_setIfInBounds_self_of_lt hlt,h6,h7,Nat.zero_add]
end
theorem oX.two {P : Program} {kt : TypeId} {κ : Type} [DecidableEq κ] {ke : κ → Value} {f g : κ → Int} {a b : Field} (hu : P.underlying kt = some (.struct #[a, b])) (h1 : P.underlying a.type = some (.int .i64)) (h2 : P.underlying b.type = some (.int .i64)) (n1 : a.name ≠ "_") (n2 : b.name ≠ "_") (o1 : a.offset = 0) (o2 : b.offset = 1)
  (hs:P.stoodInHeld kt=false) (hke:∀ s,ke s=.agg [.int .i64 (f s),.int .i64 (g s)].toArray) (hi:∀ s t,f s=f t→g s=g t→s=t):oX P kt ke:=by
 have a1:∀ w,(isAgg a.type).run P w=.ok false w:=fun w=>by simp [isAgg,run_underlying h1,Result.andThen]
 have a2:∀ w,(isAgg b.type).run P w=.ok false w:=fun w=>by simp [isAgg,run_underlying h2,Result.andThen]
 have p1:∀ w u v,(part a.type [Value.int .i64 u,.int .i64 v].toArray a.offset).run P w=.ok (.int .i64 u) w:=fun w u v=>by simp [part,a1,Result.andThen,o1]
 have p2:∀ w u v,(part b.type [Value.int .i64 u,.int .i64 v].toArray b.offset).run P w=.ok (.int .i64 v) w:=fun w u v=>by simp [part,a2,Result.andThen,o2]
 have c1:∀ w e u,(Instr.checkKey e 9999 a.type (.int .i64 u)).run P w=.ok () w:=fun w e u=>MapKept.run_checkKey (n:=9998) h1 (by simp [MapKept.IsKey]) e;have c2:∀ w e u,(Instr.checkKey e 9999 b.type (.int .i64 u)).run P w=.ok () w:=fun w e u=>MapKept.run_checkKey (n:=9998) h2 (by simp [MapKept.IsKey]) e;refine ⟨fun w e s=>?_,⟨_,hu,fun s t=>by rw [hke,hke];rfl⟩,fun w s t=>?_,fun w s=>?_⟩
 ·rw [hke];unfold Instr.checkKey;simp only [Sem.run_bind,run_underlying hu,Result.andThen];simp [n1,n2,p1,p2,c1,c2]
 ·rw [hke,hke];have hf:P.fieldsOf kt = #[a,b]:=by simp [Program.fieldsOf,hu]
  have:=run_equalIn_struct (P:=P) w 9999 kt [Value.int .i64 (f s),.int .i64 (g s)].toArray [Value.int .i64 (f t),.int .i64 (g t)].toArray (by rw [hf];exact hu) hs;show (Op.equalIn 10000 _ _ _).run P w=_;rw [this,hf];have hd:(f s=f t∧g s=g t)↔s=t:=⟨fun h=>hi s t h.1 h.2,fun h=>by rw [h];exact ⟨rfl,rfl⟩⟩;show (Op.eqFields 9999 _ _ [a,b]).run P w=_;simp only [Op.eqFields,if_pos n1,if_pos n2,Sem.run_bind,p1,p2,qA h1,qA h2,Result.andThen,Sem.run_ite,Sem.run_pure];by_cases e1:f s=f t
  ·by_cases e2:g s=g t
   ·simp [e1,e2,hd.1 ⟨e1,e2⟩]
   have:s≠t:=fun h=>e2 (by rw [h])
   simp [e1,e2,this]
  have:s≠t:=fun h=>e1 (by rw [h])
  simp [e1,this]
 rw [hke];simp [Instr.keyThatStays,Instr.sameBits]
end Pk
namespace Pk
open Go Go.Proofs
section
variable {P:Program} {r:Option Nat} {n:aP} {p:List PanicEntry→aP} {ops:Array Oper} {rest:List Oper} {d:Nat} {ty:TypeId} {pos:String} {af:Array Edge} {x:Fr} {Hs:List Hp} {σ:aN} {L:bX}
theorem VE (A A':aN) {B:aN} {y:Operand} {xs:List Operand} {ats:Array TypeId} {f:FuncId} {first cap:List Value} {vs args:List Value} {fv v:Value} (hσ:(A++B).map Prod.snd=σ.map Prod.snd) (hcall:∀ args w,(callFunc f args).run P w=.ok (.enter f args) w) (hf:ev L y=some fv) (hfv:fv=.func (.func f) first.toArray cap.toArray) (hxs:oV L xs=some vs) (hargs:first++vs++cap=args) (hd:Nat.blt d x.k=true)
  (hc:∀ w V,St x.M x.w0 x.H0 [V] (A++B) w→wZ Hs V→Calls P f args.toArray w (CM x.M x.w0 x.H0 V B fun e _ A1=>e=.returned v∧A1=A'))
  (h:∀ K,OG P r ops n p x (K::Hs) (A'++B) ((d,v)::L) rest):OG P r ops n p x Hs σ L (⟨some d,.call ⟨.value y,xs.toArray,ats⟩,ty,pos,af,none⟩::rest):=by
 refine VB A hσ hcall hf hfv hxs hargs hc ?_;rintro e K A1 a w ⟨rfl,rfl⟩ hS hA;exact VA (h K (a.put (some d) v) w hS (hA.put hd v))
theorem clU (A A':aN) {B:aN} {y:Operand} {xs:List Operand} {ats:Array TypeId} {f:FuncId} {first cap:List Value} {vs args:List Value} {fv v:Value} (hp:(A++B).Perm σ) (hAA:A'=A) (hcall:∀ args w,(callFunc f args).run P w=.ok (.enter f args) w) (hf:ev L y=some fv) (hfv:fv=.func (.func f) first.toArray cap.toArray) (hxs:oV L xs=some vs) (hargs:first++vs++cap=args) (hd:Nat.blt d x.k=true)
  (hc:∀ w V,St x.M x.w0 x.H0 [V] (A++B) w→wZ Hs V→Calls P f args.toArray w (CM x.M x.w0 x.H0 V B fun e _ A1=>e=.returned v∧A1=A'))
  (h:∀ K,OG P r ops n p x (K::Hs) σ ((d,v)::L) rest):OG P r ops n p x Hs σ L (⟨some d,.call ⟨.value y,xs.toArray,ats⟩,ty,pos,af,none⟩::rest):=by
 subst hAA;intro a w hS hA;refine VB (σ:=A'++B) A' rfl hcall hf hfv hxs hargs hc ?_ a w (hS.permO (hp.map _)) hA;rintro e K A1 a w ⟨rfl,rfl⟩ hS hA;exact VA (h K (a.put (some d) v) w (hS.permO (hp.symm.map _)) (hA.put hd v))
end
end Pk
namespace Pk
open Go
section
variable {α σ ε τ:Type}
def wN (g:Nat→α→σ→σ⊕ε) (out:σ→ε):List α→Nat→σ→ε
 | [],_,a=>out a
 | x::l,i,a=>match g i x a with
  | .inl a'=>wN g out l (i+1) a'
  | .inr e=>e
theorem HD (g:Nat→α→σ→σ⊕ε) (out:σ→ε) (i:Nat) (a:σ):wN g out [] i a=out a:=rfl
theorem CO (g:Nat→α→σ→σ⊕ε) (out:σ→ε) (x:α) (l:List α) (i:Nat) (a:σ):wN g out (x::l) i a=(match g i x a with | .inl a'=>wN g out l (i+1) a' | .inr e=>e):=rfl
theorem lZ (l:List α) (g:Nat→α→σ→σ⊕ε) (out:σ→ε) (I:Nat→σ→Prop) {step:Nat×σ→Option ((Nat×σ)⊕ε)}
  (hs:∀ i x a,i < l.length→l[i]?=some x→I i a→step (i,a)=some (match g i x a with | .inl a'=>.inl (i+1,a') | .inr e=>.inr e))
  (hI:∀ i x a a',i < l.length→l[i]?=some x→I i a→g i x a=.inl a'→I (i+1) a')
  (he:∀ a,I l.length a→step (l.length,a)=some (.inr (out a))) {a0:σ} (h0:I 0 a0):aQ step (0,a0)=some (wN g out l 0 a0):=by
 have key:∀ k i a,l.length - i=k→i≤l.length→I i a→aQ step (i,a)=some (wN g out (l.drop i) i a):=by
  intro k
  induction k with
  | zero =>
   intro i a hk hi hIa;obtain rfl:i=l.length:=by omega
   rw [cN (he a hIa),List.drop_length,HD]
  | succ k ih =>
   intro i a hk hi hIa;have hlt:i < l.length:=by omega
   have hx:l[i]?=some l[i]:=List.getElem?_eq_getElem hlt;rw [List.drop_eq_getElem_cons hlt,CO];have h1:=hs i _ a hlt hx hIa
   cases hg:g i l[i] a with
   | inl a' =>
    rw [hg] at h1;rw [eH h1,ih (i+1) a' (by omega) (by omega) (hI i _ a a' hlt hx hIa hg)]
   | inr e =>
    rw [hg] at h1;rw [cN h1]
 have:=key l.length 0 a0 (by omega) (by omega) h0;simpa using this
def rY (g:Nat→α→Option ε) (out:ε):List α→Nat→ε
 | [],_=>out
 | x::l,i=>match g i x with
  | none=>rY g out l (i+1)
  | some e=>e
theorem jP (l:List α) (g:Nat→α→Option ε) (out:ε) {step:Nat→Option (Nat⊕ε)}
  (hs:∀ i x,i < l.length→l[i]?=some x→step i=some (match g i x with | none=>.inl (i+1) | some e=>.inr e))
  (he:step l.length=some (.inr out)):aQ step 0=some (rY g out l 0):=by
 have key:∀ k i,l.length - i=k→i≤l.length→aQ step i=some (rY g out (l.drop i) i):=by
  intro k
  induction k with
  | zero =>
   intro i hk hi;obtain rfl:i=l.length:=by omega
   rw [cN he,List.drop_length];rfl
  | succ k ih =>
   intro i hk hi;have hlt:i < l.length:=by omega
   have hx:l[i]?=some l[i]:=List.getElem?_eq_getElem hlt;rw [List.drop_eq_getElem_cons hlt];have h1:=hs i _ hlt hx;simp only [rY]
   cases hg:g i l[i] with
   | none=>rw [hg] at h1;rw [eH h1,ih (i+1) (by omega) (by omega)]
   | some e=>rw [hg] at h1;rw [cN h1]
 have:=key l.length 0 (by omega) (by omega);simpa using this
theorem yR (p:α→Bool) (e out:ε):∀ (l:List α) (i:Nat),rY (fun _ x=>if p x then none else some e) out l i=if l.all p then out else e
 | [],_=>rfl
 | x::l,i=>by
  have ih:=yR p e out l (i+1);simp only [rY,List.all_cons] at ih ⊢;by_cases h:p x=true
  ·simp only [h,if_true,ih,Bool.true_and]
  simp [h]
theorem vE (f:σ→α→σ) (out:σ→ε):∀ (l:List α) (i:Nat) (a:σ),wN (fun _ x a=>.inl (f a x)) out l i a=out (l.foldl f a)
 | [],_,_=>rfl
 | x::l,i,a=>by simp only [wN,List.foldl_cons];exact vE f out l (i+1) (f a x)
theorem iH (l:List α) (p:α→Bool) (e out:ε) {step:Nat→Option (Nat⊕ε)}
  (hs:∀ i x,i < l.length→l[i]?=some x→step i=some (if p x then .inl (i+1) else .inr e)) (he:step l.length=some (.inr out)):aQ step 0=some (if l.all p then out else e):=by
 rw [jP l (fun _ x=>if p x then none else some e) out (fun i x hi hx=>by rw [hs i x hi hx];cases p x <;> simp) he,yR]
theorem iB (l:List α) (f:σ→α→σ) (out:σ→ε) (I:Nat→σ→Prop) {step:Nat×σ→Option ((Nat×σ)⊕ε)}
  (hs:∀ i x a,i < l.length→l[i]?=some x→I i a→step (i,a)=some (.inl (i+1,f a x)))
  (hI:∀ i x a,i < l.length→l[i]?=some x→I i a→I (i+1) (f a x))
  (he:∀ a,I l.length a→step (l.length,a)=some (.inr (out a))) {a0:σ} (h0:I 0 a0):aQ step (0,a0)=some (out (l.foldl f a0)):=by
 rw [lZ l (fun _ x a=>.inl (f a x)) out I (fun i x a hi hx h=>hs i x a hi hx h) (fun i x a a' hi hx h e=>by cases e;exact hI i x a hi hx h) he h0,vE]
theorem mA (f:α→τ):∀ (l:List α) (a:List τ),l.foldl (fun a x=>a++[f x]) a=a++l.map f
 | [],a=>by simp
 | x::l,a=>by simp [mA f l]
theorem nY (p:α→Bool) (f:σ→α→σ) (out:σ→ε) (e:ε):∀ (l:List α) (i:Nat) (a:σ),wN (fun _ x a=>if p x then .inl (f a x) else .inr e) out l i a=if l.all p then out (l.foldl f a) else e
 | [],_,_=>rfl
 | x::l,i,a=>by
  have ih:=nY p f out e l (i+1) (f a x);simp only [wN,List.all_cons,List.foldl_cons];by_cases h:p x=true
  ·simp only [h,if_true,ih,Bool.true_and]
  simp [h]
theorem rZ (g:Nat→α→Option ε) (e out:ε):∀ (l pre:List α) [Decidable (pre++l).Nodup],(∀ i x,x∈(pre++l).take i→g i x=some e)→(∀ i x,x∉(pre++l).take i→g i x=none)→pre.Nodup→rY g out l pre.length=if (pre++l).Nodup then out else e
 | [],pre,_,_,_,h=>by simp only [rY];rw [if_pos (by simpa using h)]
 | x::l,pre,_,h1,h2,h=>by
  have ht:(pre++x::l).take pre.length=pre:=by simp
  simp only [rY];by_cases hx:x∈pre
  ·have:¬(pre++x::l).Nodup:=by
    intro hn;rw [List.nodup_append] at hn;exact hn.2.2 x hx x List.mem_cons_self rfl
   rw [h1 _ x (by rw [ht];exact hx),if_neg this]
  have hp:(pre++[x]).Nodup:=by
   rw [List.nodup_append];exact ⟨h,by simp,fun a ha b hb=>by simp at hb;subst hb;rintro rfl;exact hx ha⟩
  have e1:(pre++[x])++l=pre++x::l:=by simp
  have:Decidable ((pre++[x])++l).Nodup:=by rw [e1];infer_instance
  have ih:=rZ g e out l (pre++[x]) (by rw [e1];exact h1) (by rw [e1];exact h2) hp;rw [h2 _ x (by rw [ht];exact hx)];simp only [List.length_append,List.length_singleton] at ih;rw [ih];by_cases hn:(pre++x::l).Nodup
  ·rw [if_pos hn,if_pos (by rw [e1];exact hn)]
  rw [if_neg hn,if_neg (by rw [e1];exact hn)]
theorem jH (l:List α) (F:α→τ) (out:List τ→ε) {step:Nat×List τ→Option ((Nat×List τ)⊕ε)}
  (hs:∀ i x a,i < l.length→l[i]?=some x→a.length=i→step (i,a)=some (.inl (i+1,a++[F x])))
  (he:∀ a,step (l.length,a)=some (.inr (out a))):aQ step (0,[])=some (out (l.map F)):=by
 rw [iB l (fun a x=>a++[F x]) out (fun i a=>a.length=i) hs (fun i x a _ _ h=>by simp [h]) (fun a _=>he a) rfl,mA];rfl
theorem kY (l:List α) (k:Nat) (p:α→Bool) (e out:ε) {step:Nat→Option (Nat⊕ε)}
  (hs:∀ i x,i < l.length→i < k→l[i]?=some x→step i=some (if p x then .inl (i+1) else .inr e)) (he:∀ i,¬(i < l.length∧i < k)→step i=some (.inr out)):aQ step 0=some (if (l.take k).all p then out else e):=by
 refine iH (l.take k) p e out (fun i x hi hx=>?_) (he _ (by rw [List.length_take];omega));rw [List.length_take] at hi;exact hs i x (by omega) (by omega) (by rw [List.getElem?_take_of_lt (by omega)] at hx;exact hx)
theorem bU {p:Prop} [Decidable p] (h:p) (x:Option α):cQ p x=x:=GR h x
theorem KZ {l:List α} {i:Nat} {x:α} (h:l[i]?=some x):i < l.length:=(List.getElem?_eq_some_iff.1 h).1
theorem HE (x:Option α):(x.bind fun r=>some r)=x:=by cases x <;> rfl
end
end Pk
namespace Pk
open Go
section
variable {α β:Type}
noncomputable def yS (l:List α) (f:α→Option Bool) (s:Nat):Option (Nat⊕(Unit⊕Int)) :=
 if (s:Int) < (l.length:Int) then (l[s]?).bind fun x=>(f x).bind fun r=>if r then some (.inr (.inr (s:Int))) else some (.inl (s+1)) else some (.inr (.inl ()))
noncomputable def LA (l:List α) (f:α→Option Bool):Option Int:=(aQ (yS l f) 0).bind fun e=>match e with
 | .inr z=>some z
 | .inl _=>some (-1)
noncomputable def CP (l:List α) (f:α→Option Bool):Option Bool:=(LA l f).bind fun r=>some (decide (0≤r))
noncomputable def vF (l:List α) (f:α→Option Bool):Option Bool:=(CP l (fun x=>(f x).bind fun r=>some (!r))).bind fun r=>some (!r)
theorem tK (p:α→Bool):∀ (l:List α) (i:Nat),rY (ε:=Unit⊕Int) (fun j x=>if p x then some (.inr (j:Int)) else none) (.inl ()) l i=if l.any p then .inr ((i:Int)+(l.findIdx p:Nat)) else .inl ()
 | [],_=>rfl
 | x::l,i=>by
  have ih:=tK p l (i+1);simp only [rY];by_cases h:p x=true
  ·simp [h,List.findIdx_cons]
  simp only [h,if_false,ih,List.any_cons,List.findIdx_cons,Bool.false_eq_true];simp only [Bool.not_eq_true] at h;simp only [Bool.false_or,cond_false];by_cases h2:l.any p=true
  ·simp only [h2,if_true];congr 1;omega
  simp [h2]
theorem AF {l:List α} {f:α→Option Bool} (p:α→Bool) (h:∀ x∈l,f x=some (p x)):LA l f=some (if l.any p then ((l.findIdx p:Nat):Int) else -1):=by
 unfold LA;have hl:aQ (yS l f) 0=some (rY (ε:=Unit⊕Int) (fun j x=>if p x then some (.inr (j:Int)) else none) (.inl ()) l 0):=by
  refine jP (ε:=Unit⊕Int) l (fun j x=>if p x then some (.inr (j:Int)) else none) (.inl ()) (fun i x hi hx=>?_) ?_
  ·unfold yS;rw [if_pos (by omega),hx,Option.bind_some,h x (List.mem_of_getElem? hx)];cases p x <;> rfl
  unfold yS;simp
 rw [hl,tK];by_cases h:l.any p=true
 ·simp only [h,if_true,Option.bind_some];congr 1;omega
 simp [h]
theorem nZ {l:List α} {f:α→Option Bool} (p:α→Bool) (h:∀ x∈l,f x=some (p x)):CP l f=some (l.any p):=by
 unfold CP;rw [AF p h];by_cases h2:l.any p=true
 ·simp only [h2,if_true,Option.bind_some];simp
 simp only [h2];simp
theorem gC {l:List α} {f:α→Option Bool} (p:α→Bool) (h:∀ x∈l,f x=some (p x)):vF l f=some (l.all p):=by
 unfold vF;rw [nZ (fun x=>!p x) (fun x hx=>by rw [h x hx];rfl),Option.bind_some];congr 1
 induction l with
 | nil=>rfl
 | cons x l ih=>simp only [List.any_cons,List.all_cons,Bool.not_or,Bool.not_not];rw [ih (fun y hy=>h y (List.mem_cons_of_mem _ hy))]
noncomputable def HF [DecidableEq α] (l:List α) (v:α) (s:Nat):Option (Nat⊕(Unit⊕Int)) :=
 if (s:Int) < (l.length:Int) then (l[s]?).bind fun x=>if v=x then some (.inr (.inr (s:Int))) else some (.inl (s+1)) else some (.inr (.inl ()))
noncomputable def VF [DecidableEq α] (l:List α) (v:α):Option Int:=(aQ (HF l v) 0).bind fun e=>match e with
 | .inr z=>some z
 | .inl _=>some (-1)
noncomputable def LB [DecidableEq α] (l:List α) (v:α):Option Bool:=(VF l v).bind fun r=>some (decide (0≤r))
theorem CQ [DecidableEq α] (l:List α) (v:α):VF l v=some (if v∈l then ((l.findIdx (fun x=>decide (v=x)):Nat):Int) else -1):=by
 unfold VF;have hl:aQ (HF l v) 0=some (rY (ε:=Unit⊕Int) (fun j x=>if decide (v=x) then some (.inr (j:Int)) else none) (.inl ()) l 0):=by
  refine jP (ε:=Unit⊕Int) l (fun j x=>if decide (v=x) then some (.inr (j:Int)) else none) (.inl ()) (fun i x hi hx=>?_) ?_
  ·unfold HF;rw [if_pos (by omega),hx,Option.bind_some];by_cases h:v=x <;> simp [h]
  unfold HF;simp
 rw [hl,tK]
 have:l.any (fun x=>decide (v=x))=decide (v∈l):=by
  rw [Bool.eq_iff_iff];simp
 rw [this];by_cases h:v∈l <;> simp [h]
theorem AG [DecidableEq α] (l:List α) (v:α):LB l v=some (decide (v∈l)):=by
 unfold LB;rw [CQ];by_cases h:v∈l <;> simp [h]
noncomputable def HG (a:List α) (b:List β) (f:α→β→Option Bool) (s:Nat):Option (Nat⊕(Unit⊕Bool)) :=
 if (s:Int) < (a.length:Int) then (a[s]?).bind fun x=>(b[s]?).bind fun y=>(f x y).bind fun r=>if r then some (.inl (s+1)) else some (.inr (.inr false)) else some (.inr (.inl ()))
noncomputable def LC (a:List α) (b:List β) (f:α→β→Option Bool):Option Bool :=
 if (a.length:Int)≠(b.length:Int) then some false else (aQ (HG a b f) 0).bind fun e=>match e with
 | .inr z=>some z
 | .inl _=>some true
def CR (p:α→β→Bool):List α→List β→Bool
 | [],[]=>true
 | x::a,y::b=>p x y&&CR p a b
 | _,_=>false
theorem yT (p:α→β→Bool):∀ (a:List α) (b:List β),a.length=b.length→CR p a b=(a.zip b).all (fun q=>p q.1 q.2)
 | [],[],_=>rfl
 | x::a,y::b,h=>by simp only [CR,List.zip_cons_cons,List.all_cons];rw [yT p a b (by simpa using h)]
 | [],y::b,h=>by simp at h
 | x::a,[],h=>by simp at h
theorem yU (p:α→β→Bool):∀ (a:List α) (b:List β),CR p a b=true→a.length=b.length
 | [],[],_=>rfl
 | x::a,y::b,h=>by simp only [CR,Bool.and_eq_true] at h;simp [yU p a b h.2]
 | [],y::b,h=>by simp [CR] at h
 | x::a,[],h=>by simp [CR] at h
theorem AH {a:List α} {b:List β} {f:α→β→Option Bool} (p:α→β→Bool) (h:∀ x∈a,∀ y∈b,f x y=some (p x y)):LC a b f=some (CR p a b):=by
 unfold LC;by_cases hl:a.length=b.length
 ·rw [if_neg (by omega)];have h1:aQ (HG a b f) 0=some (if (a.zip b).all (fun q=>p q.1 q.2) then .inl () else .inr false):=by
   refine iH (a.zip b) _ _ _ (fun i x hi hx=>?_) ?_
   ·rw [List.length_zip] at hi;rw [List.getElem?_zip_eq_some] at hx;unfold HG;rw [if_pos (by omega),hx.1,Option.bind_some,hx.2,Option.bind_some,h _ (List.mem_of_getElem? hx.1) _ (List.mem_of_getElem? hx.2)];cases p x.1 x.2 <;> rfl
   rw [List.length_zip];unfold HG;rw [if_neg (by omega)]
  rw [h1,yT p a b hl];by_cases e:(a.zip b).all (fun q=>p q.1 q.2)=true <;> simp [e]
 rw [if_pos (by omega)]
 have:CR p a b=false:=by
  rw [← Bool.not_eq_true];exact fun e=>hl (yU p a b e)
 rw [this]
end
end Pk
namespace Pk
open Go Go.Lib
def rH (c:UInt8):Bool:=decide (48≤c.toNat∧c.toNat≤57)
def gW (l:aF) (a:Nat):Nat:=l.foldl (fun a c=>10*a+(c.toNat - 48)) a
theorem oJ (l m:aF) (a:Nat):gW (l++m) a=gW m (gW l a):=by simp [gW]
theorem qE:∀ (l:aF) (a:Nat),decFrom a l=if l.all rH then some (gW l a) else none
 | [],a=>rfl
 | c::l,a=>by
  have ih:=fun b=>qE l b;simp only [decFrom,List.all_cons,gW,List.foldl_cons] at ih ⊢;unfold digitVal;by_cases h:rH c=true
  ·have h':=h;simp only [rH,decide_eq_true_eq] at h';simp only [h',and_self,if_true,h,Bool.true_and];rw [show a*10+(c.toNat - 48)=10*a+(c.toNat - 48) by omega];exact ih _
  have h':=h;simp only [rH,decide_eq_true_eq] at h';simp [h',h]
theorem vG {n:Nat} (h:n < 256):(UInt8.ofNat n).toNat=n:=by simp;omega
theorem CS {n:Nat} (h:n < 10):rH (UInt8.ofNat (48+n))=true:=by
 unfold rH;rw [vG (by omega)];simp;omega
theorem yV (u:Nat):(decDigits u).all rH=true:=by
 induction u using Nat.strongRecOn with
 | _ u ih =>
  rw [decDigits]
  split
  ·simp only [List.all_cons,List.all_nil,Bool.and_true];exact CS ‹_›
  rw [List.all_append,ih (u/10) (by omega)];simp only [List.all_cons,List.all_nil,Bool.and_true,Bool.true_and];exact CS (show u%10 < 10 by omega)
theorem yW (u:Nat):gW (decDigits u) 0=u:=by
 induction u using Nat.strongRecOn with
 | _ u ih =>
  rw [decDigits]
  split
  ·simp only [gW,List.foldl_cons,List.foldl_nil];rw [vG (by omega)];omega
  rw [oJ,ih (u/10) (by omega)];simp only [gW,List.foldl_cons,List.foldl_nil];rw [vG (by omega)];omega
theorem xE (u:Nat):decDigits u≠[]:=by
 rw [decDigits];split <;> simp
theorem yX {u k:Nat} (h:u < 10 ^ k) (hk:1≤k):(decDigits u).length≤k:=by
 induction k generalizing u with
 | zero=>omega
 | succ k ih =>
  rw [decDigits]
  split
  ·simp
  rw [List.length_append];have h1:u/10 < 10 ^ k:=by rw [Nat.pow_succ] at h;omega
  have hk1:1≤k:=by
   rcases k with _ | k
   ·simp at h1;omega
   omega
  have:=ih h1 hk1;simp;omega
theorem CT {u:Nat} (h:1≤u):(decDigits u).head?≠some 48:=by
 induction u using Nat.strongRecOn with
 | _ u ih =>
  rw [decDigits]
  split
  ·simp only [List.head?_cons,ne_eq,Option.some.injEq];intro e;have:=congrArg UInt8.toNat e;rw [vG (by omega)] at this
   have:(48:UInt8).toNat=48:=rfl
   omega
  rw [List.head?_append];have:=ih (u/10) (by omega) (by omega)
  cases hd:(decDigits (u/10)).head? with
  | none=>rw [List.head?_eq_none_iff] at hd;exact absurd hd (xE _)
  | some c=>rw [hd] at this;simpa using this
theorem yY {c:UInt8} (h:rH c=true):UInt8.ofNat (48+(c.toNat - 48))=c:=by
 simp only [rH,decide_eq_true_eq] at h;apply UInt8.toNat_inj.1;rw [vG (by omega)];omega
theorem yZ:∀ (l:aF) (a:Nat),l.all rH=true→gW l a < (a+1)*10 ^ l.length
 | [],a,_=>by simp [gW]
 | c::l,a,h=>by
  simp only [List.all_cons,Bool.and_eq_true] at h;have ih:=yZ l (10*a+(c.toNat - 48)) h.2;have hc:=h.1;simp only [rH,decide_eq_true_eq] at hc
  have:gW (c::l) a=gW l (10*a+(c.toNat - 48)):=rfl
  rw [this,List.length_cons,Nat.pow_succ];refine Nat.lt_of_lt_of_le ih ?_;rw [Nat.mul_comm (10 ^ l.length) 10,← Nat.mul_assoc];exact Nat.mul_le_mul_right _ (by omega)
theorem CU (l:aF) (h0:l≠[]) (h:l.all rH=true) (hh:l.head?≠some 48):decDigits (gW l 0)=l∧1≤gW l 0:=by
 have key:∀ (n:Nat) (l:aF),l.length=n→l≠[]→l.all rH=true→l.head?≠some 48→decDigits (gW l 0)=l∧1≤gW l 0:=by
  intro n
  induction n with
  | zero=>intro l hn h0;exact absurd (List.length_eq_zero_iff.1 hn) h0
  | succ n ih =>
   intro l hn h0 h hh;obtain ⟨m,c,rfl⟩:∃ m c,l=m++[c]:=⟨l.dropLast,l.getLast h0,(List.dropLast_concat_getLast h0).symm⟩;rw [List.all_append,Bool.and_eq_true] at h;have hc:rH c=true:=by simpa using h.2
   have hc':=hc;simp only [rH,decide_eq_true_eq] at hc';have hv:gW (m++[c]) 0=10*gW m 0+(c.toNat - 48):=by rw [oJ];rfl
   rw [hv];by_cases hm:m=[]
   ·subst hm;have hne:c≠48:=by simpa using hh
    have hne':c.toNat≠48:=fun e=>hne (UInt8.toNat_inj.1 (by rw [e];rfl));simp only [gW,List.foldl_nil,Nat.mul_zero,Nat.zero_add];refine ⟨?_,by omega⟩;rw [decDigits,dif_pos (by omega),yY hc];rfl
   have hmh:m.head?≠some 48:=by
    cases m with
    | nil=>exact absurd rfl hm
    | cons x m=>simpa using hh
   obtain ⟨h1,h2⟩:=ih m (by simp at hn;omega) hm h.1 hmh;refine ⟨?_,by omega⟩;rw [decDigits,dif_neg (by omega)];rw [show (10*gW m 0+(c.toNat - 48))/10=gW m 0 by omega,show (10*gW m 0+(c.toNat - 48))%10=c.toNat - 48 by omega,h1,yY hc]
 exact key l.length l rfl h0 h hh
theorem CV {u:Nat} (h:u < 10 ^ 18):atoiAll (decDigits u)=.ok (u:Int):=by
 rw [atoiAll_short _ (yX h (by decide))];have ha:=yV u;have hv:=yW u
 cases hd:decDigits u with
 | nil=>exact absurd hd (xE u)
 | cons c r =>
  rw [hd] at ha hv;have hc:rH c=true:=by simp only [List.all_cons,Bool.and_eq_true] at ha;exact ha.1
  simp only [rH,decide_eq_true_eq] at hc;have h0:(c==45)=false:=by
   rw [beq_eq_false_iff_ne];rintro rfl;simp at hc
  have h1:(c==43)=false:=by
   rw [beq_eq_false_iff_ne];rintro rfl;simp at hc
  simp only [atoi,h0,h1,decNat,List.isEmpty_cons,qE,ha,hv];rfl
end Pk
namespace Pk
open Go
theorem CW {α:Type} {f:α→α→Option Int} (lt:α→α→Bool) {l l':List α} (hlen:l.length≤1073741824) (hf:∀ x∈l,∀ y∈l,∃ c,f x y=some c∧(c < 0↔lt x y=true)) (irr:∀ x∈l,lt x x=false)
    (tr:∀ x∈l,∀ y∈l,∀ z∈l,lt x y=true→lt y z=true→lt x z=true) (tot:∀ x∈l,∀ y∈l,x≠y→lt x y=true∨lt y x=true) (hp:l'.Perm l) (hs:l'.Pairwise (fun x y=>lt x y=true)):mX f l=some l':=by
  have hlt:∀ x∈l,∀ y∈l,gZ f x y=lt x y:=fun x hx y hy=>by
    obtain ⟨c,h1,h2⟩:=hf x hx y hy;unfold gZ;rw [h1]
    cases h:lt x y with
    | true=>simpa using h2.2 h
    | false => simp;by_cases hc:c < 0
               · rw [h2.1 hc] at h;cases h
               omega
  have hok:jO f l:=⟨hlen,fun x hx y hy=>(hf x hx y hy).imp fun _ h=>h.1,fun x hx=>by rw [hlt x hx x hx];exact irr x hx,
    fun x hx y hy z hz h1 h2=>by rw [hlt x hx y hy] at h1;rw [hlt y hy z hz] at h2;rw [hlt x hx z hz];exact tr x hx y hy z hz h1 h2,
    fun x hx y hy h1 h2=>by
      rw [hlt x hx y hy] at h1;rw [hlt y hy x hx] at h2;by_cases e:x=y
      · exact e
      rcases tot x hx y hy e with h | h
      · rw [h] at h1;cases h1
      rw [h] at h2;cases h2⟩
  rw [CE hok];congr 1;have hmap:(l.attach.mergeSort fun a b=>!gZ f b.1 a.1).map (·.1)=l.mergeSort fun x y=>!gZ f y x:=by
    rw [List.map_mergeSort (s:=fun x y=>!gZ f y x) (fun a _ b _=>rfl)];congr 1;exact List.attach_map_subtype_val l
  have hpw:(l.attach.mergeSort fun a b=>!gZ f b.1 a.1).Pairwise (fun a b=>(!gZ f b.1 a.1)=true):=by
    refine List.pairwise_mergeSort (fun a b c h1 h2=>?_) (fun a b=>?_) _
    · simp only [Bool.not_eq_true'] at *;rw [hlt _ b.2 _ a.2] at h1;rw [hlt _ c.2 _ b.2] at h2;rw [hlt _ c.2 _ a.2]
      cases h3:lt c.1 a.1 with
      | false=>rfl
      | true =>
        exfalso;by_cases e:b.1=a.1
        · rw [e] at h2;rw [h2] at h3;cases h3
        rcases tot _ b.2 _ a.2 e with h | h
        · rw [h] at h1;cases h1
        rw [tr _ c.2 _ a.2 _ b.2 h3 h] at h2;cases h2
    simp only [Bool.or_eq_true,Bool.not_eq_true'];rw [hlt _ b.2 _ a.2,hlt _ a.2 _ b.2]
    cases h3:lt b.1 a.1 with
    | false=>exact .inl rfl
    | true =>
      right
      cases h4:lt a.1 b.1 with
      | false=>rfl
      | true=>have:=tr _ a.2 _ b.2 _ a.2 h4 h3;rw [irr _ a.2] at this;cases this
  have hpw':(l.mergeSort fun x y=>!gZ f y x).Pairwise (fun x y=>(!gZ f y x)=true):=by
    rw [← hmap,List.pairwise_map];exact hpw
  refine List.Perm.eq_of_pairwise (le:=fun x y=>(!gZ f y x)=true) ?_ hpw' ?_ ((List.mergeSort_perm _ _).trans hp.symm)
  · intro x y hx hy h1 h2;have hx':x∈l:=(List.mergeSort_perm _ _).subset hx;have hy':y∈l:=hp.subset hy;simp only [Bool.not_eq_true'] at h1 h2;rw [hlt _ hy' _ hx'] at h1;rw [hlt _ hx' _ hy'] at h2;by_cases e:x=y
    · exact e
    rcases tot _ hx' _ hy' e with h | h
    · rw [h] at h2;cases h2
    rw [h] at h1;cases h1
  refine hs.imp_of_mem fun {x y} hx hy h=>?_;simp only [Bool.not_eq_true'];rw [hlt _ (hp.subset hy) _ (hp.subset hx)]
  cases h3:lt y x with
  | false=>rfl
  | true=>have:=tr _ (hp.subset hx) _ (hp.subset hy) _ (hp.subset hx) h h3;rw [irr _ (hp.subset hx)] at this;cases this
end Pk
namespace Pk
open Go
section
variable {α β σ ε:Type}
end
end Pk
namespace Pk
open Go
section
variable {α:Type}
def dN (x:α):List α→List (List α)
 | []=>[[x]]
 | y::l=>(x::y::l)::(dN x l).map (y :: ·)
end
section
variable {S ρ:Type}
end
section
variable {α ρ:Type}
end
section
variable {α β σ ε S ρ:Type}
end
end Pk
