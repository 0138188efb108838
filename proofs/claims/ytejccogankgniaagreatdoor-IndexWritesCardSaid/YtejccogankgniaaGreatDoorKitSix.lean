/-
  The kit,third text: ranges over functions,errors,arguments;plain lemmas on models.
-/
import Derived.Test.YtejccogankgniaaGreatDoorKitTwo
import Derived.RangeFuncLeaves
import Derived.RangeFuncRecord
import Derived.RangeFuncOwn
import Derived.RangeFuncNested
import Derived.WideLaws
import Derived.Shelf.Strconv.AtoiAll
import Derived.Shelf.Strconv.Itoa3
import Derived.Carry
import Derived.ProofKit
import Derived.LaidMore
import Derived.OpenShut
import Derived.Stop.Joined
import Derived.Shelf.SlSortCmp.NoneTotal
import Derived.Shelf.Vars
import Derived.Lib.AppendZeros
import Derived.SizedLaws
import Derived.Laws.BytesArg
import Derived.Lib.SlicesCompact
import Derived.Lib.AppendStr
import Derived.Maps.RangeRun
import Derived.Laws.Pointers
import Derived.Lib.SlBytesConst
set_option linter.all false
namespace Pk
open Go
section
variable {P:Program} {r:Option Nat} {n rt:aU} {e:List (Nat×aU)} {p:List PanicEntry→aU} {x:Fr} {Hs:List Hp} {σ:aP} {L:bM} {N:aU}
def RB (P:Program) (fn:Func) (R:Ending→World→Prop) (D:List Deferred):aU:=fun a w=>LeavesInM (FW none) 0 P fn a.tmps R D .returning w
def RD (P:Program) (fn:Func) (R:Ending→World→Prop):aU:=fun a w=>LeavesInM (FW none) 0 P fn a.tmps R a.defers .returning w
abbrev mk1 (b:Nat):Deferred:={ target:=.collected b,args:=#[] }
theorem OE {f:FuncId} {fn:Func} {c:Code} {nt:Nat} {w:World} {R:Ending→World→Prop} {l:List Value} (hf:P.funcs[f]?=some fn) (hb:fn.body=some c) (hn:fn.ntmps=nt) (hl:Nat.ble l.length nt=true)
  (h:∀ a,aX [] nt a (gP 0 l)→W P none c (RD P fn R) (RD P fn R) [] (fun _ _ _=>False) a w):Calls P f l.toArray w R:=by
 have hl':l.length≤nt:=by simpa using hl
 have h1:=h { tmps:=l.toArray++Array.replicate (fn.ntmps - l.toArray.size) undef,defers:=[] } ⟨rfl,by simp [hn];omega,fun i v hi=>by
  obtain ⟨_,h2⟩:=nL l 0 i v hi;simp only [Nat.sub_zero] at h2;have hlt:i < l.length:=(List.getElem?_eq_some_iff.1 h2).1;rw [Array.getElem?_append_left (by simpa using hlt)]
  simpa using h2⟩
 refine (callsIn_wide (n:=0)).1 (callsIn_of_wp_marks hf hb trivial ?_);refine wpIn_mono h1 ?_;intro z a w hz
 cases z with
 | normal=>exact hz
 | ret=>exact hz
 | panic ch=>exact hz.elim
 | exit id=>obtain ⟨K,hK,_⟩:=hz;simp [AQ] at hK
 | goto l=>exact hz
 | outgrown=>exact hz.elim
theorem wM {M:Prop} {f:FuncId} {fn:Func} {c:Code} {nt:Nat} {w:World} {R:Ending→World→Prop} {l:List Value} (hf:P.funcs[f]?=some fn) (hb:fn.body=some c) (hn:fn.ntmps=nt) (hl:Nat.ble l.length nt=true) {H:Hp} (hH:H.le (hp w))
  (h:TG ⟨[],nt,M,w,H⟩ [H] [] (gP 0 l) (W P none c (RD P fn R) (RD P fn R) [] (fun _ _ _=>False))):Calls P f l.toArray w R :=
 OE hf hb hn hl fun a hA=>h a w (St.start M w hH) hA
variable {fn:Func} {R:Ending→World→Prop} {D:List Deferred} {k:Nat} {M:Prop} {w0:World} {H0:Hp}
theorem GT (h:TG ⟨D,k,M,w0,H0⟩ Hs σ L (RB P fn R D)):TG ⟨D,k,M,w0,H0⟩ Hs σ L (RD P fn R):=fun a w hS hA=>by
 have:=h a w hS hA;unfold RD;rw [hA.defers];exact this
theorem St.put {t b:Nat} {o o':Obj} {w:World} (hS:St M w0 H0 Hs σ w) (hσ:bJ σ t=some (.blk b o)):St M w0 H0 Hs (cE σ t (.blk b o')) (w.putObj b o'):=by
 have hb:w.heap[b]?=some o:=hS.get hσ;exact hS.step hσ (y:=.blk b o') ⟨grownBy_putObj' w b o',Nat.le_refl _⟩ (World.putObj_heap_same (Array.getElem?_eq_some_iff.1 hb).1) (fun _ h=>.inl h)
theorem rtT (t:Nat) {b:Nat} (hσ:bJ σ t=some (.blk b (.deferred (some [])))) (h:TG x Hs (cE σ t (.blk b (.deferred none))) L (RB P fn R D)):TG x Hs σ L (RB P fn R (mk1 b::D)):=fun a w hS hA=>by
 have hb:w.heap[b]?=some (.deferred (some [])):=hS.get hσ;exact ⟨by simp,.inl ⟨b,_,rfl,run_takeDeferred hb,h a _ (St.put hS hσ) hA⟩⟩
theorem GU {D':List Deferred} (h:TG ⟨[],k,M,w0,H0⟩ Hs σ L (Rt P fn R)):TG ⟨D',k,M,w0,H0⟩ Hs σ L (RB P fn R []):=fun a w hS hA=>by
 obtain ⟨_,v,h1,h2⟩:=h { a with defers:=[] } w hS ⟨rfl,hA.size,hA.get⟩;exact ⟨v,h1,h2⟩
abbrev LR (fn:FuncId) (tm:Array Value) (ps:Array Tmp) (asg body:Code) (dB:Nat) (st:LoopState) (pe:Option Code):Obj:=.loop { state:=st,pending:=pe,fn:=fn,tmps:=tm,params:=ps,assign:=asg,body:=body,defers:=dB }
def MI (O:LoopState→Option Code→Obj) (tm:Array Value) (ps:List Tmp) (asg body:Code):Prop:=∃ fn dB,∀ s q,O s q=LR fn tm ps.toArray asg body dB s q
def EL (P:Program) (r:Option Nat) (l:Nat) (n rt:aU) (e:List (Nat×aU)) (p:List PanicEntry→aU):aU:=fun a w=>∃ jump w',(Instr.endLoop l).run P w=.ok jump w'∧(match jump with | none=>n a w' | some c=>W P r c n rt e p a w')
theorem KG {f:FuncId} {args:Array Value} {w:World} (h:Calls P f args w R):CallsIn (FW r) (0 - 1) P f args w R:=(callsIn_wide (n:=0)).2 h
theorem YV {g:Operand} {ps:List Tmp} {asg body:Code} {f:FuncId} {fnc:Func} {cd:Code} {nt:Nat} {cap:List Value} (tl tD:Nat)
  (hcall:∀ args w,(callFunc f args).run P w=.ok (.enter f args) w) (hfn:P.funcs[f]?=some fnc) (hb:fnc.body=some cd) (hn:fnc.ntmps=nt)
  (hg:ev L g=some (.func (.func f) #[] cap.toArray)) (hl:Nat.ble (cap.length+1) nt=true) (J:Nat→Nat→(LoopState→Option Code→Obj)→World→Prop)
  (h1:∀ l dB O tm,aX [] x.k ⟨tm,[]⟩ L→MI O tm ps asg body→TG ⟨[],nt,x.M,x.w0,x.H0⟩ Hs ((tl,.blk l (O .ready none))::(tD,.blk dB (.deferred (some [])))::σ) (gP 0 (.func (.yield l) #[] #[]::cap))
   (W P none cd (Rt P fnc fun e w=>∃ v,e=.returned v∧J l dB O w) (Rt P fnc fun e w=>∃ v,e=.returned v∧J l dB O w) [] (fun _ _ _=>False)))
  (h2:∀ l dB O tm a w,MI O tm ps asg body→aX (mk1 dB::x.D) x.k a L→J l dB O w→EL P none l n rt e p a w):TG x Hs σ L (W P none (.rangeFunc g ps.toArray asg body) n rt e p):=fun a w hS hA=>by
 refine wpIn_rangeFunc fun fn _=>?_;obtain ⟨O,hO⟩:∃ O:LoopState→Option Code→Obj,∀ s q,O s q=LR fn a.tmps ps.toArray asg body w.heap.size s q:=⟨_,fun _ _=>rfl⟩;have hR:MI O a.tmps ps asg body:=⟨fn,_,hO⟩;obtain ⟨W1,hW1⟩:∃ W1,(w.alloc (.deferred (some []))).alloc (O .ready none)=W1:=⟨_,rfl⟩;refine ⟨w.heap.size+1,[mk1 w.heap.size],W1,⟨.fn (.func f) cap.toArray,#[.func (.yield (w.heap.size+1)) #[] #[]]⟩,W1,f,(.func (.yield (w.heap.size+1)) #[] #[]::cap).toArray,W1,by rw [← hW1,hO];exact run_enterLoop_outer fn a.tmps ps.toArray asg body,?_,?_,?_,?_,?_⟩
 ·simp only [resolve,hA.eval hg];simp [go_sem,Deferred.ofValue]
 ·intro _ _;trivial
 ·simp [invoke,hcall]
 ·intro h;simp [FW] at h
 have hS1:=hS.add (dZ.alloc _ w (.deferred (some []))) tD (x:=.blk w.heap.size (.deferred (some []))) (dO w _) (fun b hb=>by simp [aK.foot] at hb;omega);have hS2:=hS1.add (dZ.alloc _ _ (O .ready none)) tl (x:=.blk (w.heap.size+1) (O .ready none)) (by have:=dO (w.alloc (.deferred (some []))) (O .ready none);simpa [aK.holds] using this) (fun b hb=>by simp [aK.foot] at hb;simp;omega);have hT:aX [] x.k ⟨a.tmps,[]⟩ L:=⟨rfl,hA.size,hA.get⟩;rw [hW1] at hS2
 have hc:Calls P f (.func (.yield (w.heap.size+1)) #[] #[]::cap).toArray W1 (fun e' w'=>∃ v,e'=.returned v∧J (w.heap.size+1) w.heap.size O w') :=
  enter hfn hb hn (by simpa using hl) fun a' hA'=>rW (fun _ _ h=>h) (fun _ _ h=>h) (fun _ K _ _ hK h=>⟨K,hK,h⟩) (fun _ _ _ h=>h.elim) (h1 _ _ O a.tmps hT hR a' _ hS2 hA')
 refine (KG hc).mono ?_;rintro e' w' ⟨v,rfl,hJ⟩;have hA2:aX (mk1 w.heap.size::x.D) x.k { a with defers:=[mk1 w.heap.size]++a.defers } L:=⟨by simp [hA.defers],hA.size,hA.get⟩;exact h2 _ _ O a.tmps _ w' hR hA2 hJ
theorem oV:∀ (σ:aP) (t:Nat) (y:aK),cD (cE σ t y) t=cD σ t
 | [],_,_=>rfl
 | (i,z)::σ,t,y=>by
  by_cases e:i=t
  ·subst e;simp [cE,cD]
  simp only [cE,cD,cV e,cond_false,oV σ t y]
theorem YW (t:Nat) {l:Nat} {O:LoopState→Option Code→Obj} {tm:Array Value} {ps:List Tmp} {asg body:Code} (hO:MI O tm ps asg body) (hσ:bJ σ t=some (.blk l (O .ready none))) (h:TG x Hs (cD σ t) L n):TG x Hs σ L (EL P r l n rt e p):=fun a w hS hA=>by
 have hb:w.heap[l]?=some (O .ready none):=hS.get hσ;obtain ⟨fn,dB,hO⟩:=hO;rw [hO] at hb;exact ⟨_,_,run_endLoop hb (by simp),h a _ (by have:=(St.put (o':=LR fn tm ps.toArray asg body dB .exhausted none) hS hσ).del t;rwa [oV] at this) hA⟩
theorem elC (t:Nat) {l:Nat} {O:LoopState→Option Code→Obj} {tm:Array Value} {ps:List Tmp} {asg body:Code} {c:Code} (hO:MI O tm ps asg body) (hσ:bJ σ t=some (.blk l (O .done (some c)))) (h:TG x Hs (cD σ t) L (W P r c n rt e p)):TG x Hs σ L (EL P r l n rt e p):=fun a w hS hA=>by
 have hb:w.heap[l]?=some (O .done (some c)):=hS.get hσ;obtain ⟨fn,dB,hO⟩:=hO;rw [hO] at hb;exact ⟨_,_,run_endLoop hb (by simp),h a _ (by have:=(St.put (o':=LR fn tm ps.toArray asg body dB .exhausted (some c)) hS hσ).del t;rwa [oV] at this) hA⟩
def BR (P:Program) (l:Nat) (N:aU):aU:=fun a w=>∃ w',(Instr.beginRound l).run P w=.ok () w'∧N a w'
def RE (P:Program) (l:Nat) (J:Value→World→Prop) (jump:Option Code):aU:=fun _ w=>∃ v w',(Instr.endRound l jump).run P w=.ok v w'∧J v w'
theorem bR (t:Nat) {l:Nat} {O:LoopState→Option Code→Obj} {tm:Array Value} {ps:List Tmp} {asg body:Code} (hO:MI O tm ps asg body) (hσ:bJ σ t=some (.blk l (O .ready none))) (h:TG x Hs (cE σ t (.blk l (O .busy none))) L N):TG x Hs σ L (BR P l N):=fun a w hS hA=>by
 have hb:w.heap[l]?=some (O .ready none):=hS.get hσ;obtain ⟨fn,dB,hO⟩:=hO;rw [hO] at hb;exact ⟨_,run_beginRound hb rfl,h a _ (by have:=St.put (o':=O .busy none) hS hσ;rw [hO] at this ⊢;exact this) hA⟩
theorem eR (t:Nat) {l:Nat} {O:LoopState→Option Code→Obj} {tm:Array Value} {ps:List Tmp} {asg body:Code} {J:Value→World→Prop} (jump:Option Code) (hO:MI O tm ps asg body) (hσ:bJ σ t=some (.blk l (O .busy none)))
  (h:∀ w,St x.M x.w0 x.H0 Hs (cE σ t (.blk l (O (if jump.isNone then .ready else .done) jump))) w→J (.bool jump.isNone) w):TG x Hs σ L (RE P l J jump):=fun a w hS hA=>by
 have hb:w.heap[l]?=some (O .busy none):=hS.get hσ;obtain ⟨fn,dB,hO⟩:=hO;rw [hO] at hb;exact ⟨_,_,run_endRound jump hb,h _ (by have:=St.put (o':=O (if jump.isNone then .ready else .done) jump) hS hσ;rw [hO] at this ⊢;exact this)⟩
theorem BC {ps:List Tmp} {vs:List Value} {k:Nat}:∀ {tm:Array Value} {L:bM},aX [] k ⟨tm,[]⟩ L→(ps.all fun t=>Nat.blt t k)=true→aX [] k ⟨(ps.zip vs).foldl (fun t (q,v)=>t.setIfInBounds q v) tm,[]⟩ ((ps.zip vs).reverse++L):=by
 intro tm L hT hp
 induction ps generalizing vs tm L with
 | nil=>exact hT
 | cons q ps ih =>
  cases vs with
  | nil=>exact hT
  | cons v vs =>
   simp only [List.all_cons,Bool.and_eq_true] at hp;have h1:aX [] k ⟨tm.setIfInBounds q v,[]⟩ ((q,v)::L):=by have:=hT.put (d:=q) hp.1 v;simpa [Act.put] using this
   have:=ih (vs:=vs) h1 hp.2;simpa using this
theorem CM {F:Nat→aU} {id:Nat} {K:aU}:∀ (ids:List Nat),AQ (ids.map fun i=>(i,F i)) id=some K→K=F id
 | [],h=>by simp [AQ] at h
 | i::ids,h=>by
  simp only [List.map_cons,AQ] at h;by_cases e:i=id
  ·subst e;simp at h;exact h.symm
  rw [cV e] at h;exact CM ids h
theorem KH {ops:Array Oper} {rest:List Oper} {o:Oper} {l:Nat} {f:FuncId} {tm:Array Value} {asg body:Code} {J:Value→World→Prop} {a:Act} {w:World} (ids:List Nat) (hg:o.guard=none) (hd:∀ c,o.op≠.defer c) (hr:(execOp a.eval o).run P w=.ok (.round l f tm asg body) w)
  (h:W P (some l) asg (BR P l (W P (some l) body (RE P l J none) (RE P l J (some .ret)) (ids.map fun i=>(i,RE P l J (some (.exit i)))) (fun _ _ _=>False))) (fun _ _=>False) [] (fun _ _ _=>False) ⟨tm,[]⟩ w)
  (h2:∀ v w',J v w'→O P r ops n p rest (a.put o.dst v) w'):O P r ops n p (o::rest) a w:=by
 simp only [O,Region.wanted,hg,if_true];refine ⟨fun _ _=>trivial,?_⟩;rw [Oper.semAt_eq _ _ _ hd,hr];refine ⟨fun h=>by simp [FW] at h,?_⟩;have hRI:RoundIn (FW r) (0 - 1) P l f tm asg body w (fun e w'=>∃ v,e=.returned v∧J v w'):=by
  refine roundIn_of_wpIn trivial (wpIn_mono h ?_);intro z a1 w1 hz
  cases z with
  | normal =>
   obtain ⟨w2,hb,hB⟩:=hz;refine ⟨w2,hb,wpIn_mono hB ?_⟩;intro z a w hz
   cases z with
   | normal=>obtain ⟨v,w',h1,h2⟩:=hz;exact ⟨v,w',h1,v,rfl,h2⟩
   | ret=>obtain ⟨v,w',h1,h2⟩:=hz;exact ⟨v,w',h1,v,rfl,h2⟩
   | exit id =>
    obtain ⟨K,hK,hz⟩:=hz;have:K=RE P l J (some (.exit id)):=by
     exact CM (F:=fun i=>RE P l J (some (.exit i))) ids hK
    subst this;obtain ⟨v,w',h1,h2⟩:=hz;exact ⟨v,w',h1,v,rfl,h2⟩
   | panic c=>exact hz.elim
   | goto l=>exact hz.elim
   | outgrown=>exact hz.elim
  | ret=>exact hz.elim
  | exit id=>obtain ⟨K,hK,_⟩:=hz;simp [AQ] at hK
  | panic c=>exact hz.elim
  | goto l=>exact hz.elim
  | outgrown=>exact hz.elim
 refine hRI.mono ?_;rintro e' w' ⟨v,rfl,hJ⟩;exact h2 v w' hJ
theorem ET {x:Operand} {xs:List Operand} {ats:Array TypeId} {l:Nat} {vs:List Value} {dst:Option Nat} {gd:Option (Nat×Bool)} {ty:TypeId} {pos:String} {af:Array Edge} {a:Act} {w:World} {D:List Deferred} {k:Nat} {rec:Loop} (hA:aX D k a L) (hf:ev L x=some (.func (.yield l) #[] #[])) (hxs:lO L xs=some vs)
  (h:w.heap[l]?=some (.loop rec)) (hs:vs.length=rec.params.size) :
  (execOp a.eval ⟨dst,.call ⟨.value x,xs.toArray,ats⟩,ty,pos,af,gd⟩).run P w=.ok (.round l rec.fn ((rec.params.zip vs.toArray).foldl (fun tmps (t,a)=>tmps.setIfInBounds t a) rec.tmps) rec.assign rec.body) w:=by
 have:=nM hA hxs;have hy:=run_yield (P:=P) (args:=vs.toArray) h (by simpa using hs);simp [execOp,resolve,hA.eval hf,Deferred.ofValue,invoke,this,hy]
theorem yl {y:Operand} {xs:List Operand} {ats:Array TypeId} {vs:List Value} {dst:Option Nat} {ty:TypeId} {pos:String} {af:Array Edge} {ops:Array Oper} {rest:List Oper} (t:Nat) {l:Nat} {Oj:LoopState→Option Code→Obj} {tm:Array Value} {ps:List Tmp} {asg body:Code} {k':Nat} {L' L1:bM} (ids:List Nat)
  (hy:ev L y=some (.func (.yield l) #[] #[])) (hxs:lO L xs=some vs) (hσ:bJ σ t=some (.blk l (Oj .ready none))) (hT:aX [] k' ⟨tm,[]⟩ L') (hO:MI Oj tm ps asg body) (hlen:vs.length=ps.length) (hps:(ps.all fun t=>Nat.blt t k')=true) (hL:(ps.zip vs).reverse++L'=L1) (J:Value→World→Prop)
  (h1:TG ⟨[],k',x.M,x.w0,x.H0⟩ Hs σ L1 (W P (some l) asg (BR P l (W P (some l) body (RE P l J none) (RE P l J (some .ret)) (ids.map fun i=>(i,RE P l J (some (.exit i)))) (fun _ _ _=>False))) (fun _ _=>False) [] (fun _ _ _=>False)))
  (h2:∀ a w v,aX x.D x.k a L→J v w→O P r ops n p rest (a.put dst v) w):OG P r ops n p x Hs σ L (⟨dst,.call ⟨.value y,xs.toArray,ats⟩,ty,pos,af,none⟩::rest):=fun a w hS hA=>by
 subst hL;have hb:w.heap[l]?=some (Oj .ready none):=hS.get hσ;obtain ⟨fn,dB,hO⟩:=hO;rw [hO] at hb;refine KH (J:=J) ids rfl (fun _ h=>by cases h) (ET hA hy hxs hb (by simpa using hlen)) ?_ (fun v w' hJ=>h2 a w' v hA hJ);have:=h1 _ w hS (BC (vs:=vs) hT hps);simpa using this
theorem YX {y:Operand} {xs:List Operand} {ats:Array TypeId} {f:FuncId} {fnc:Func} {cd:Code} {nt:Nat} {first cap:List Value} {vs args:List Value} {dst:Option Nat} {ty:TypeId} {pos:String} {af:Array Edge} {ops:Array Oper} {rest:List Oper} (hcall:∀ args w,(callFunc f args).run P w=.ok (.enter f args) w) (hfn:P.funcs[f]?=some fnc) (hb:fnc.body=some cd) (hn:fnc.ntmps=nt) (hf:ev L y=some (.func (.func f) first.toArray cap.toArray)) (hxs:lO L xs=some vs) (hargs:first++vs++cap=args) (hl:Nat.ble args.length nt=true)
  (h1:TG ⟨[],nt,x.M,x.w0,x.H0⟩ Hs σ (gP 0 args) (W P none cd (Rt P fnc fun e w=>∃ v,e=.returned v∧∀ a,aX x.D x.k a L→O P r ops n p rest (a.put dst v) w) (Rt P fnc fun e w=>∃ v,e=.returned v∧∀ a,aX x.D x.k a L→O P r ops n p rest (a.put dst v) w) [] (fun _ _ _=>False))) :
  OG P r ops n p x Hs σ L (⟨dst,.call ⟨.value y,xs.toArray,ats⟩,ty,pos,af,none⟩::rest) :=
 SS hcall hfn hb hn hf hxs hargs hl (fun v w=>∀ a,aX x.D x.k a L→O P r ops n p rest (a.put dst v) w) h1 fun a w v hA hJ=>hJ a hA
end
end Pk
namespace Pk
open Go Go.RowKit
def SX (v:Value):Prop:=v=.nilIface∨∃ te pe,v=.iface te pe
def Er (v:Value) (b:Bool):Prop:=(b=false∧v=.nilIface)∨(b=true∧∃ t u,v=.iface t u)
structure Gl (M:Prop) (gS gR gT:Nat) (H:Hp):Prop where
 nq:¬M
 syn:∃ ev,bD H ⟨gS,0,none⟩ [ev]∧SX ev
 rng:∃ ev,bD H ⟨gR,0,none⟩ [ev]∧SX ev
 tab:∃ t z,H gT=some (.cells (Lib.pow10Tab.map fun i=>Value.int .u64 i).toArray t z)
theorem Gl.mono {M:Prop} {gS gR gT:Nat} {H K:Hp} (h:Gl M gS gR gT H) (hk:H.le K):Gl M gS gR gT K:=by
 obtain ⟨hn,⟨a,h1,h2⟩,⟨b,h3,h4⟩,⟨t,z,h5⟩⟩:=h;exact ⟨hn,⟨a,h1.mono hk,h2⟩,⟨b,h3.mono hk,h4⟩,⟨t,z,hk _ _ h5⟩⟩
theorem nV {w:World} {H:Hp} {g:Nat} {v:Value} (hH:H.le (hp w)) (h:bD H ⟨g,0,none⟩ [v]):w.cell? ⟨g,0,none⟩=some v:=by
 obtain ⟨_,h⟩:=h;obtain ⟨cs,t,z,h1,h2⟩:=h 0 v rfl;have:=hH _ _ h1;simp [World.cell?,show w.heap[g]?=_ from this];simpa using h2
theorem GV {P:Program} {w:World} {H:Hp} {g:Nat} {nm:String} (hn:P.globalNamed nm=some g) (hH:H.le (hp w)) (h:∃ t z,H g=some (.cells (Lib.pow10Tab.map fun i=>Value.int .u64 i).toArray t z)):Lib.TabIs P w nm .u64 Lib.pow10Tab:=by
 obtain ⟨t,z,h⟩:=h;have:=hH _ _ h;simp [Lib.TabIs,World.var?,hn,show w.heap[g]?=_ from this]
theorem dZ.of_below {M:Prop} {w w':World} (hM:¬M) (h:Below w.heap.size w w'):dZ M w w':=⟨h.os,h.tape,h.output,h.size,fun b hb=>h.block b hb,fun q=>absurd q hM⟩
def mH (s:aA):Int×Bool:=match Lib.atoiAll s with
 | .ok v=>(v,false)
 | .range=>(Lib.atoiSat s,true)
 | _=>(0,true)
noncomputable def CN (s:aA):Option (Int×Bool):=chk (s.length≤1073741824) (some (mH s))
noncomputable def yS (n:Int):Option aA:=chk (-9223372036854775808≤n∧n≤9223372036854775807) (some (Lib.itoa n))
section
variable {P:Program} {r:Option Nat} {n:aU} {p:List PanicEntry→aU} {ops:Array Oper} {rest:List Oper} {d:Nat} {ty:TypeId} {pos:String} {af:Array Edge} {x:Fr} {Hs:List Hp} {σ:aP} {L:bM}
theorem neE {y:Operand} {t u:TypeId} {v:Value} {b:Bool} {ms:_} (hu':P.underlying t=some (.interface ms)) (hd:Nat.blt d x.k=true) (hy:ev L y=some v) (hb:Er v b) (h:OG P r ops n p x Hs σ ((d,.bool b)::L) rest):OG P r ops n p x Hs σ L (⟨some d,.binOp .neq t y (.const .nilIface) u,ty,pos,af,none⟩::rest):=fun a w hS hA=>by
 have hu:P.underlying t=some (.interface (P.methodsAt t)):=by rw [hu'];simp [Program.methodsAt,hu']
 refine cB rfl (fun _ h=>by cases h) (w':=w) (v:=.bool b) ?_ (h _ w hS (hA.put hd _));rcases hb with ⟨rfl,rfl⟩ | ⟨rfl,te,pe,rfl⟩ <;> simp [execOp,hA.eval hy,show a.eval (.const .nilIface)=.nilIface from rfl,eqGuard,run_neq_nil_nil w t hu,run_neq_held_nil w t _ _ hu,run_eql_nil_nil w t hu,run_eql_held_nil w t _ _ hu,Result.andThen]
end
def dY {α:Type} (f:α→α→Option Int) (x y:α):Bool:=match f x y with
 | some c=>decide (c < 0)
 | none=>false
structure iP {α:Type} (f:α→α→Option Int) (l:List α):Prop where
 small:l.length≤1073741824
 some_:∀ x∈l,∀ y∈l,∃ c,f x y=some c
 irr:∀ x∈l,dY f x x=false
 tr:∀ x∈l,∀ y∈l,∀ z∈l,dY f x y=true→dY f y z=true→dY f x z=true
 tot:∀ x∈l,∀ y∈l,dY f x y=false→dY f y x=false→x=y
open Classical in
noncomputable def fU {α:Type} (f:α→α→Option Int) (l:List α):Option (List α):=if iP f l then some (l.mergeSort fun x y=>!dY f y x) else none
theorem gW {α:Type} {f:α→α→Option Int} {l l':List α} (h:fU f l=some l'):iP f l∧l.mergeSort (fun x y=>!dY f y x)=l':=by
 unfold fU at h
 split at h
 ·exact ⟨‹_›,Option.some.inj h⟩
 cases h
theorem gK {α:Type} {f:α→α→Option Int} {l l':List α} (h:fU f l=some l'):l'.length=l.length:=by
 rw [← (gW h).2,List.length_mergeSort]
end Pk
namespace Pk
open Go Go.RowKit Go.ChangeShapes Go.WideShapes
def AS (P:Program) (w:World) (t:TypeId) (n:Nat) {α:Type} (R:Hp→List Value→α→Prop) (ok:α→Prop):Prop :=
 P.cellsOf t=n∧∀ {H:Type} (enc:TypeId×Value→H) (base:Nat) (sp:Nat→Bool) (held:Bool) (fuel:Nat) (cs:List Value) (x:DataW H×List MemPlace),DataW.trod enc P w base sp held fuel t cs=some x→cs.length=n∧∃ a,R (hp w) cs a∧ok a
abbrev sM (k:IntKind) (n:Int):Prop:=k.min≤n∧n≤k.max
abbrev KI {α:Type} (ok:α→Prop) (l:List α):Prop:=∀ x∈l,ok x
abbrev okT {α:Type} (_:α):Prop:=True
section
variable {P:Program} {w:World} {t e:TypeId}
theorem GW {α:Type} {R:Hp→List Value→α→Prop} {ok:α→Prop} {ds:TypeDesc} (_hu:P.underlying t=some ds) (hc:P.cellsOf t=1)
  (h0:∀ {H:Type} (enc:TypeId×Value→H) (base:Nat) (sp:Nat→Bool) (held:Bool) (fuel:Nat),DataW.trod enc P w base sp held (fuel+1) t []=none)
  (h2:∀ {H:Type} (enc:TypeId×Value→H) (base:Nat) (sp:Nat→Bool) (held:Bool) (fuel:Nat) (u v:Value) (l:List Value),DataW.trod enc P w base sp held (fuel+1) t (u::v::l)=none)
  (h1:∀ {H:Type} (enc:TypeId×Value→H) (base:Nat) (sp:Nat→Bool) (held:Bool) (fuel:Nat) (v:Value) (x:DataW H×List MemPlace),DataW.trod enc P w base sp held (fuel+1) t [v]=some x→∃ a,R (hp w) [v] a∧ok a):AS P w t 1 R ok:=by
 refine ⟨hc,fun {H} enc base sp held fuel cs x h=>?_⟩
 cases fuel with
 | zero=>cases h
 | succ fuel =>
  match cs,h with
  | [],h=>rw [h0] at h;cases h
  | [v],h=>exact ⟨rfl,h1 enc base sp held fuel v x h⟩
  | u::v::l,h=>rw [h2] at h;cases h
theorem wN {k:IntKind} (hu:P.underlying t=some (.int k)) (hc:P.cellsOf t=1):AS P w t 1 (aS (wG k)) (sM k):=by
 refine GW hu hc (fun enc base sp held fuel=>by unfold DataW.trod;rw [hu]) (fun enc base sp held fuel u v l=>by unfold DataW.trod;rw [hu];cases u <;> rfl) (fun enc base sp held fuel v x h=>?_);unfold DataW.trod at h;rw [hu] at h;cases v <;> simp at h
 rename_i k' n
 obtain ⟨⟨rfl,hw⟩,_⟩:=h;exact ⟨n,rfl,by simpa [Lit.wf,IntKind.has] using hw⟩
theorem KJ (hu:P.underlying t=some (.int .u8)) (hc:P.cellsOf t=1):AS P w t 1 (aS cN) okT:=by
 refine ⟨hc,fun {H} enc base sp held fuel cs x h=>?_⟩;obtain ⟨h1,a,h2,h3⟩:=(wN (w:=w) hu hc).2 enc base sp held fuel cs x h;refine ⟨h1,UInt8.ofNat a.toNat,?_,trivial⟩;have h0:0≤a∧a≤255:=h3;show cs=cN _;rw [show cs=wG .u8 a from h2];simp only [wG,cN];rw [show ((UInt8.ofNat a.toNat).toNat:Int)=a by simp;omega]
theorem oW (hu:P.underlying t=some .string) (hc:P.cellsOf t=1):AS P w t 1 (aS aN) (fun s=>s.length≤maxLen):=by
 refine GW hu hc (fun enc base sp held fuel=>by unfold DataW.trod;rw [hu]) (fun enc base sp held fuel u v l=>by unfold DataW.trod;rw [hu];cases u <;> rfl) (fun enc base sp held fuel v x h=>?_);unfold DataW.trod at h;rw [hu] at h;cases v <;> simp at h
 rename_i s
 refine ⟨s.data.toList,?_,by show s.data.toList.length≤maxLen;rw [Array.length_toList];exact h.1⟩;show _=aN _;simp [aN,bs]
theorem CO {α:Type} {Q:Nat→α→Prop}:∀ (n:Nat),(∀ i,i < n→∃ x,Q i x)→∃ l:List α,l.length=n∧∀ i x,l[i]?=some x→Q i x
 | 0,_=>⟨[],rfl,fun i x h=>by simp at h⟩
 | n+1,h=>by
  obtain ⟨l,h1,h2⟩:=CO n (fun i hi=>h i (by omega));obtain ⟨x,hx⟩:=h n (by omega);refine ⟨l++[x],by simp [h1],fun i y hy=>?_⟩;by_cases hi:i < l.length
  ·rw [List.getElem?_append_left hi] at hy;exact h2 i y hy
  rw [List.getElem?_append_right (by omega)] at hy;have:i - l.length=0:=by
   by_cases c:i - l.length=0
   ·exact c
   rw [List.getElem?_eq_none (by simp;omega)] at hy;cases hy
  rw [this] at hy;simp at hy;subst hy;rw [show i=n by omega];exact hx
theorem rK {α β:Type} {f:α→Option β}:∀ {l:List α} {ys:List β},l.mapM f=some ys→∀ x∈l,∃ y,f x=some y
 | [],_,_,x,hx=>by cases hx
 | a::l,ys,h,x,hx=>by
  simp only [List.mapM_cons,Option.pure_def,Option.bind_eq_bind,Option.bind_eq_some_iff] at h;obtain ⟨y,h1,zs,h2,_⟩:=h;rcases List.mem_cons.1 hx with rfl | hx
  ·exact ⟨y,h1⟩
  exact rK h2 x hx
theorem yT {base:Nat} {a:Addr} {n:Nat} {cs:List Value} (h:w.cells? base a n=some cs) (hn:0 < n):bD (hp w) a cs∧cs.length=n:=by
 unfold World.cells? at h
 split at h
 ·have hlen:cs.length=n:=by
   have:∀ (l:List Nat) (ys:List Value),l.mapM (fun i=>w.cell? (a.add i))=some ys→ys.length=l.length:=by
    intro l
    induction l with
    | nil=>intro ys h;simp at h;subst h;rfl
    | cons x l ih =>
     intro ys h;simp only [List.mapM_cons,Option.pure_def,Option.bind_eq_bind,Option.bind_eq_some_iff] at h;obtain ⟨y,_,zs,h2,h3⟩:=h;cases h3;simp [ih _ h2]
   rw [this _ _ h];simp
  have hat:∀ (l:List Nat) (ys:List Value),l.mapM (fun i=>w.cell? (a.add i))=some ys→∀ (j:Nat) (v:Value),ys[j]?=some v→∃ i:Nat,l[j]?=some i∧w.cell? (a.add i)=some v:=by
   intro l
   induction l with
   | nil=>intro ys h j v hj;simp at h;subst h;simp at hj
   | cons x l ih =>
    intro ys h j v hj;simp only [List.mapM_cons,Option.pure_def,Option.bind_eq_bind,Option.bind_eq_some_iff] at h;obtain ⟨y,h1,zs,h2,h3⟩:=h;cases h3
    cases j with
    | zero=>simp at hj;subst hj;exact ⟨x,rfl,h1⟩
    | succ j=>simp at hj;exact ih _ h2 j v hj
  have hij:∀ j i:Nat,(List.range n)[j]?=some i→i=j:=by
   intro j i hi;have hlt:j < n:=by
    have:=(List.getElem?_eq_some_iff.1 hi).1;simpa using this
   rw [List.getElem?_range hlt] at hi;simpa using hi.symm
  have hs:a.spot=none:=by
   obtain ⟨i,hi,hv⟩:=hat _ _ h 0 (cs[0]'(by omega)) (List.getElem?_eq_getElem _);obtain rfl:=hij _ _ hi;have ha:a.add 0=a:=by simp [Addr.add]
   rw [ha] at hv;unfold World.cell? at hv
   split at hv
   ·cases hs:a.spot with
    | none=>rfl
    | some s=>simp [hs] at hv
   cases hv
  refine ⟨⟨hs,fun j v hj=>?_⟩,hlen⟩;obtain ⟨i,hi,hv⟩:=hat _ _ h j v hj;obtain rfl:=hij _ _ hi;rw [cP hs] at hv;unfold World.cell? at hv;simp only at hv
  split at hv
  ·rename_i c ty fz hh
   simp at hv;exact ⟨c,ty,fz,hh,hv⟩
  cases hv
 cases h
theorem kK {α:Type} {R:Hp→List Value→α→Prop} {ok:α→Prop} {n:Nat} (hu:P.underlying t=some (.slice e)) (hc:P.cellsOf t=1) (hn:0 < n) (he:AS P w e n R ok):AS P w t 1 (sF R n) (KI ok):=by
 refine ⟨hc,fun {H} enc base sp held fuel cs x h=>?_⟩
 cases fuel with
 | zero=>cases h
 | succ fuel =>
  unfold DataW.trod at h;rw [hu] at h
  split at h <;> try (simp_all;done)
  ·exact ⟨rfl,[],⟨none,0,rfl,Sl.nil _ _ _ _ _ (by decide)⟩,fun x hx=>by cases hx⟩
  rename_i e' a len cap he'
  cases he'
  split at h
  ·rename_i hb
   rw [Option.bind_eq_some_iff] at h;obtain ⟨elems,h1,_⟩:=h;rw [he.1] at h1;have hat:∀ i,i < len→∃ z,(∃ cs,w.cells? base (a.add (i*n)) n=some cs∧R (hp w) cs z)∧ok z:=by
    intro i hi;obtain ⟨y,hy⟩:=rK h1 i (List.mem_range.2 hi);rw [Option.bind_eq_some_iff] at hy;obtain ⟨cs,hcs,hy⟩:=hy;obtain ⟨_,z,hz1,hz2⟩:=he.2 enc base sp held fuel cs y hy;exact ⟨z,⟨cs,hcs,hz1⟩,hz2⟩
   obtain ⟨l,hl,hq⟩:=CO len hat;subst hl;refine ⟨rfl,l,⟨some a,cap,rfl,⟨hb.2.1,Nat.le_trans hb.2.2 (by decide)⟩,fun i z hz=>?_⟩,fun z hz=>?_⟩
   ·obtain ⟨⟨cs,h2,h3⟩,_⟩:=hq i z hz;obtain ⟨h4,h5⟩:=yT h2 hn;have hsp:a.spot=none:=by
     obtain ⟨_,⟨cs0,h6,_⟩,_⟩:=hat 0 (by have:=aW hz;omega);have:=(yT h6 hn).1.1;simpa [Addr.add] using this
    exact ⟨a,cs,rfl,hsp,h5,h4,h3⟩
   obtain ⟨i,hi⟩:=List.mem_iff_getElem?.1 hz;exact (hq i z hi).2
  cases h
def XD (cs:List Value):List Nat→Nat→List (List Value)
 | [],_=>[]
 | n::ns,o=>(cs.drop o).take n::XD cs ns (o+n)
theorem BD (cs:List Value):∀ (ns:List Nat) (o:Nat),cs.length=o+ns.sum→cs.drop o=(XD cs ns o).flatten
 | [],o,h=>by simp at h;simp [XD,List.drop_eq_nil_of_le (Nat.le_of_eq h)]
 | n::ns,o,h=>by
  simp only [XD,List.flatten_cons];rw [← BD cs ns (o+n) (by simp at h;omega),← List.drop_drop,List.take_append_drop]
theorem pZ {H:Type} {enc:TypeId×Value→H} {base:Nat} {sp:Nat→Bool} {held:Bool} {fuel:Nat} {cs:List Value} {x:DataW H×List MemPlace} {fs:Array Field} (hu:P.underlying t=some (.struct fs)) (h:DataW.trod enc P w base sp held fuel t cs=some x) :
  cs.length=P.cellsOf t∧∃ fuel',∀ f∈fs.toList,∃ y,DataW.trod enc P w base sp held fuel' f.type ((cs.drop f.offset).take (P.cellsOf f.type))=some y:=by
 cases fuel with
 | zero=>cases h
 | succ fuel =>
  unfold DataW.trod at h;rw [hu] at h;simp only at h
  split at h
  ·rename_i hl
   refine ⟨hl,fuel,fun f hf=>?_⟩;rw [Option.map_eq_some_iff] at h;obtain ⟨ys,h1,_⟩:=h;exact rK h1 f hf
  cases h
theorem GX {α:Type} {R:Hp→List Value→α→Prop} {ok:α→Prop} (hr:AS P w t 1 R ok) {H:Type} {enc:TypeId×Value→H} {base b0:Nat} {sp:Nat→Bool} {held:Bool} {v:Value} {d:DataW H} {ps:List MemPlace} (hv:Value.okWide P w .any b0 t v) (hns:∀ cs,v≠.agg cs) (h:DataW.Trod enc P w base sp held t v d ps):∃ a,R (hp w) [v] a∧ok a:=by
 obtain ⟨fuel,h⟩:=h;obtain ⟨_,a,h1,h2⟩:=hr.2 enc base sp held fuel _ _ h;have:v.cells.toList=[v]:=by
  cases v <;> first | rfl | exact absurd rfl (hns _)
 rw [this] at h1;exact ⟨a,h1,h2⟩
theorem nsl (hu:P.underlying t=some (.slice e)) {b0:Nat} {v:Value} (hv:Value.okWide P w .any b0 t v):∀ cs,v≠.agg cs:=by
 rintro cs rfl;unfold Value.okWide at hv;rw [hu] at hv;simp only [Cell.okWide,hu,Cell.ok] at hv
end
section
variable {H:Type} {enc:TypeId×Value→H} {P:Program}
theorem mI (hl:laidOutB P=true) {W W':World} {sp:Nat→Bool} (hb:Below W.heap.size W W'):∀ {ts:List TypeId} {vs:List Value} {ds:List (DataW H)} {ps:List MemPlace},(∀ t∈ts,P.readableRec t=true∧t < P.types.size)→DataW.TrodAll enc P W 0 (fun _=>true) true ts vs ds ps→(∀ x∈ps,x.block < W.heap.size)→(∀ x∈ps,sp x.block=true)→DataW.TrodAll enc P W' 0 sp true ts vs ds ps
 | [],_,_,_,_,h,_,_=>by
  obtain ⟨rfl,rfl,rfl⟩:=trodAll_nil h;exact rfl
 | t::ts,_,_,_,hr,h,hlt,hs=>by
  obtain ⟨v,vs,d,ds,p,q,rfl,rfl,rfl,h1,h2⟩:=trodAll_cons h;have ht:=hr t List.mem_cons_self
  exact ⟨p,q,WideElems.Trod_stays hl ht.1 ht.2 h1 (fun x hx=>hb.same (hlt x (List.mem_append_left _ hx))) (fun x hx=>hs x (List.mem_append_left _ hx)),
   mI hl hb (fun u hu=>hr u (List.mem_cons_of_mem _ hu)) h2 (fun x hx=>hlt x (List.mem_append_right _ hx)) (fun x hx=>hs x (List.mem_append_right _ hx)),rfl⟩
theorem EU {M:Prop} {w w':World} (h:dZ M w w'):Below w.heap.size w w':=⟨h.os,h.tape,h.output,h.size,fun b hb=>h.keep b hb⟩
theorem KK {M:Prop} {w w':World} (h:dZ M w w') (may:MemPlace→Prop):w.keptBut w' may:=by
 refine ⟨h.os,h.output,fun i hi=>?_⟩;rw [h.keep i hi]
 cases w.heap[i]? with
 | none=>trivial
 | some o=>cases o <;> first | rfl | exact ⟨rfl,rfl,rfl,fun _ _=>rfl⟩ | exact .inr ⟨rfl,rfl⟩
theorem GY {f:Func} {s:ChangeSpec} {apart fresh handsOn again:Bool} {W W':World} {args:Array Value} {ds gs:List (DataW H)} {before:List MemPlace} {tb:TypeId}
  (hW:DataW.Whole enc P f.params.toList s.vars apart W args.toList ds gs before) (hv:s.vars=[]) (hl:laidOutB P=true) (hr:∀ t∈f.params.toList,P.readableRec t=true∧t < P.types.size)
  (hs:s.fn H ds={ results:=[.lit (.bool true)],args:=ds }) (hrt:f.resultTypes = #[tb]) (hb:P.underlying tb=some .bool) {M:Prop} (hE:dZ M W W'):s.post enc P f apart fresh handsOn again W args (.bool true) W':=by
 have hB:=EU hE;have hlt:∀ x∈before,x.block < W.heap.size:=fun x hx=>by simpa using hW.lt x hx
 have hold:∀ p∈before,(fun b=>decide (b < W.heap.size)) p.block=true:=fun p hp=>by simpa using hlt p hp
 have hW0:=hW;obtain ⟨p,q,hA,hV,rfl,hz,hn⟩:=hW;rw [hv] at hV;obtain ⟨rfl,rfl⟩:=trodVars_none hV;rw [List.append_nil] at *;have hfn:s.fn H (ds++[])={ results:=[.lit (.bool true)],args:=ds }:=by rw [List.append_nil];exact hs
 have hargs:∀ sp:Nat→Bool,(∀ x∈p,sp x.block=true)→DataW.TrodAll enc P W' 0 sp true f.params.toList args.toList ds p:=fun sp h=>mI hl hB hr hA hlt h;have hres:∀ (b:Nat) (sp:Nat→Bool) (hd:Bool),DataW.TrodAll enc P W' b sp hd f.resultTypes.toList ((Value.bool true).resultList f.resultTypes.size) [.lit (.bool true)] []:=fun b sp hd=>by
  rw [hrt];exact trodAll_mk1 (shut_bool hb _)
 have hvars:∀ sp:Nat→Bool,DataW.TrodVars enc P W' sp s.vars [] []:=fun sp=>by rw [hv];rfl
 refine ⟨ds,[],p,[],p,[],by simpa using hW0,by rw [hfn];exact hres _ _ _,by rw [hfn];exact hargs _ hold,by rw [hfn];exact hvars _,World.keptBut_mono (fun x hx=>⟨hx,by simpa using hx⟩) (KK hE _),fun _=>?_⟩;refine ⟨ok_one hrt rfl (okWide_bool_mk hb _),_,_,([]++p)++[],⟨[]++p,[],trodAll_append (hargs _ (fun _ _=>rfl)) (hres _ _ _),hvars _,rfl,?_,?_⟩,?_⟩
 ·intro b off hp;have hp':MemPlace.cell b off∈p:=by simpa using hp
  have hb':b < W.heap.size:=hlt _ hp';have:W'.frozen? ⟨b,off,none⟩=W.frozen? ⟨b,off,none⟩:=by
   unfold World.frozen?;rw [hE.keep b hb']
  rw [this];exact hz b off hp'
 ·intro ha;have:=hn ha;simpa using this
 intro x hx _;simpa using hx
end
section
variable {H:Type} {enc:TypeId×Value→H} {P:Program} {w:World} {t e:TypeId} {base:Nat} {sp:Nat→Bool} {held:Bool} {fuel:Nat} {cs:List Value}
theorem yU {ms:Array (String×TypeId)} {x:DataW H×List MemPlace} (hu:P.underlying t=some (.interface ms)) (h:DataW.trod enc P w base sp held fuel t cs=some x):∃ v,cs=[v]∧SX v:=by
 cases fuel with
 | zero=>cases h
 | succ fuel =>
  unfold DataW.trod at h;rw [hu] at h
  match cs,h with
  | [],h=>cases h
  | [.nilIface],_=>exact ⟨_,rfl,.inl rfl⟩
  | [.iface u v],_=>exact ⟨_,rfl,.inr ⟨_,_,rfl⟩⟩
  | u::v::l,h=>cases u <;> simp at h
  | [.bool _],h | [.int _ _],h | [.float _ _],h | [.complex _ _ _],h | [.string _],h | [.pointer _],h | [.slice _ _ _],h | [.agg _],h | [.tuple _],h | [.map _],h | [.chan _],h | [.func _ _ _],h | [.nilFunc],h=>simp at h
theorem uZ {n:String} {g:Nat} {cs:Array Value} (hg:P.globalNamed n=some g) (hv:w.var? P n=some cs):∃ t z,hp w g=some (.cells cs t z):=by
 unfold World.var? at hv;rw [hg,Option.bind_some] at hv
 split at hv
 ·rename_i c t z hh
  cases hv;exact ⟨t,z,hh⟩
 cases hv
theorem CP {n:String} {g:Nat} {cs:Array Value} {v:Value} (hg:P.globalNamed n=some g) (hv:w.var? P n=some cs) (hc:cs.toList=[v]):bD (hp w) ⟨g,0,none⟩ [v]:=by
 obtain ⟨t,z,h⟩:=uZ hg hv;refine ⟨rfl,fun j u hu=>⟨cs,t,z,h,?_⟩⟩;rw [← hc] at hu;simpa using hu
theorem yV {α β:Type} {f:α→Option β}:∀ {l:List α} {ys:List β},l.mapM f=some ys→∀ i:Nat,(l[i]?).bind f=ys[i]?
 | [],ys,h,i=>by simp at h;subst h;simp
 | a::l,ys,h,i=>by
  simp only [List.mapM_cons,Option.pure_def,Option.bind_eq_bind,Option.bind_eq_some_iff] at h;obtain ⟨y,h1,zs,h2,h3⟩:=h;cases h3
  cases i with
  | zero=>simpa using h1
  | succ i=>simpa using yV h2 i
theorem OF {k:IntKind} {n:Nat} {zs:List Int} {ps:List MemPlace} (hu:P.underlying t=some (.array n e)) (he:P.underlying e=some (.int k)) (hc:P.cellsOf e=1) (ht:P.cellsOf t=n) (h:DataW.trod enc P w base sp held fuel t cs=some (.agg (zs.map fun z=>.lit (.int k z)),ps)):cs=zs.map fun z=>Value.int k z:=by
 cases fuel with
 | zero=>cases h
 | succ fuel =>
  unfold DataW.trod at h;rw [hu] at h;simp only at h
  split at h
  ·rename_i hl
   rw [Option.map_eq_some_iff] at h;obtain ⟨xs,h1,h2⟩:=h;simp only [Prod.mk.injEq,DataW.agg.injEq] at h2;have hx:=h2.1;rw [hc] at h1;apply List.ext_getElem?;intro i;have hi:=yV h1 i;by_cases hin:i < n
   ·rw [List.getElem?_range hin,Option.bind_some] at hi;have hlt:i < cs.length:=by omega
    have e1:(cs.drop (i*1)).take 1=[cs[i]]:=by rw [Nat.mul_one,List.drop_eq_getElem_cons hlt,List.take_succ_cons,List.take_zero]
    rw [e1] at hi;have hxi:xs[i]?≠none:=by
     intro hn;obtain ⟨y,hy⟩:=rK h1 i (List.mem_range.2 hin);rw [e1,hi,hn] at hy;cases hy
    cases hxs:xs[i]? with
    | none=>exact absurd hxs hxi
    | some y =>
     rw [hxs] at hi;have hz:(zs.map fun z=>(DataW.lit (.int k z):DataW H))[i]?=some y.1:=by rw [← hx];simp [hxs]
     cases fuel with
     | zero=>cases hi
     | succ fuel =>
      unfold DataW.trod at hi;rw [he] at hi;rw [List.getElem?_eq_getElem hlt];cases hv:cs[i] <;> rw [hv] at hi <;> simp at hi
      rename_i k' m
      obtain ⟨⟨rfl,_⟩,rfl⟩:=hi;simp only [List.getElem?_map,Option.map_eq_some_iff] at hz ⊢;obtain ⟨z,hz1,hz2⟩:=hz;cases hz2;simp [hz1]
   have:xs[i]?=none:=by
    rw [← hi,List.getElem?_eq_none (by simp;omega)];rfl
   have hz:(zs.map fun z=>(DataW.lit (.int k z):DataW H))[i]?=none:=by rw [← hx];simp [this]
   rw [List.getElem?_eq_none (show cs.length≤i by omega)];rw [List.getElem?_eq_none_iff,List.length_map] at hz
   symm
   rw [List.getElem?_eq_none_iff,List.length_map];exact hz
  cases h
theorem SY {gS gR gT:Nat} {nS nR nT:String} {cS cR cT:Array Value} {vS vR:Value} (h1:P.globalNamed nS=some gS) (h2:w.var? P nS=some cS) (h3:cS.toList=[vS]) (h4:SX vS) (h5:P.globalNamed nR=some gR) (h6:w.var? P nR=some cR) (h7:cR.toList=[vR]) (h8:SX vR)
  (h9:P.globalNamed nT=some gT) (h0:w.var? P nT=some cT) (hA:cT.toList=Lib.pow10Tab.map fun z=>Value.int .u64 z):Gl False gS gR gT (hp w):=by
 refine ⟨not_false,⟨vS,CP h1 h2 h3,h4⟩,⟨vR,CP h5 h6 h7,h8⟩,?_⟩;obtain ⟨t,z,h⟩:=uZ h9 h0;have:cT=(Lib.pow10Tab.map fun z=>Value.int .u64 z).toArray:=by rw [← hA]
 exact ⟨t,z,by rw [← this];exact h⟩
end
end Pk
namespace Pk
open Go Go.Proofs
def SZ (P:Program) (f:Nat):Prop :=
 (∀ p cap fv w,Calls P f #[.slice p 0 cap,fv] w fun e w'=>e=.returned (.tuple #[])∧w'=w) ∧
 ∀ (α:Type) (_:Inhabited α) (enc:α→Value) (_:OneCell enc) (cf:α→α→Int) (_:Sort.SWO (ltOf cf)) (g:Nat) (cb:Array Value) (blk off cap:Nat) (d:Array α) (w:World),
  (∀ args w,(callFunc g args).run P w=.ok (.enter g args) w)→CmpLays1 P g cb enc cf blk off d.size w→Sort.Holds enc w blk off d→blk < w.heap.size→d.size < 4611686018427387904→(∀ x y,(ltOf cf) x y=false→(ltOf cf) y x=false→x=y) →
  Calls P f #[.slice (some ⟨blk,off,none⟩) d.size cap,.func (.func g) #[] cb] w fun e w'=>e=.returned (.tuple #[])∧∃ n os,w'=sortWorld enc w blk off n (d.toList.mergeSort fun x y=>!(ltOf cf) y x).toArray os
def OH (P:Program) (f k:Nat):Prop :=
 (∀ p cap fv w,Calls P f #[.slice p 0 cap,fv] w fun e w'=>e=.returned (.tuple #[])∧w'=w) ∧
 ∀ (α:Type) (_:Inhabited α) (enc:α→List Value) (_:∀ x,(enc x).length=k) (_:∀ x,∀ v∈enc x,v.oneCell'=true) (cf:α→α→Int) (_:Sort.SWO (ltOf cf)) (g:Nat) (cb:Array Value) (blk off cap:Nat) (d:Array α) (w:World),
  (∀ args w,(callFunc g args).run P w=.ok (.enter g args) w)→CmpLays P g cb enc k cf blk off d.size w→Sort.HoldsK enc k w blk off d→blk < w.heap.size→d.size < 4611686018427387904→(∀ x y,(ltOf cf) x y=false→(ltOf cf) y x=false→x=y) →
  Calls P f #[.slice (some ⟨blk,off,none⟩) d.size cap,.func (.func g) #[] cb] w fun e w'=>e=.returned (.tuple #[])∧∃ n os,w'=sortWorldK enc k w blk off n (d.toList.mergeSort fun x y=>!(ltOf cf) y x).toArray os
theorem GZ {M:Prop} {w w':World} (q:M) (h:dZ M w w'):∃ n os,w'=Sort.grow (w.drewN n) os:=by
 refine ⟨w'.drawn - w.drawn,w'.heap.extract w.heap.size,?_⟩;have hd:=h.drawn q;have hh:w'.heap=w.heap++w'.heap.extract w.heap.size:=by
  have hs:=h.size;refine Array.ext_getElem? fun i=>?_;by_cases hi:i < w.heap.size
  ·rw [Array.getElem?_append_left hi];exact h.keep i hi
  rw [Array.getElem?_append_right (by omega),Array.getElem?_extract];by_cases h2:i < w'.heap.size
  ·rw [if_pos (by omega)];congr 1;omega
  rw [if_neg (by omega)];exact Array.getElem?_eq_none (by omega)
 obtain ⟨heap,tape,drawn,os,out⟩:=w';obtain ⟨heap0,tape0,drawn0,os0,out0⟩:=w;have h1:=h.os;have h2:=h.tape;have h3:=h.output;dsimp only at h1 h2 h3 hd hh;subst h1;subst h2;subst h3;simp only [Sort.grow,World.drewN,World.mk.injEq,and_true,true_and];exact ⟨hh,by omega⟩
theorem gX {w:World} {g b:Nat} {f:Array Value→Array Value} (h:b≠g):(Sort.mapBlock w g f).heap[b]?=w.heap[b]?:=by
 show (w.heap.modify g _)[b]?=_;rw [Array.getElem?_modify,if_neg (Ne.symm h)]
theorem rL {α:Type} [Inhabited α] {enc:α→Value} {w:World} {g m:Nat} {d:Array α} {os:Array Obj} {cur:Array Value} {e:TypeId} {fz:Nat×Nat} (hg:w.heap[g]?=some (.cells cur e fz)) (hd:d.size≤cur.size) :
  yD w (sortWorld enc w g 0 m d os) (some g)∧∃ cur',(sortWorld enc w g 0 m d os).heap[g]?=some (.cells cur' e fz)∧cur'.size=cur.size∧cur'.toList.take d.size=d.toList.map enc:=by
 have hlt:g < w.heap.size:=(Array.getElem?_eq_some_iff.1 hg).1;have hsz:(Sort.putRow enc (Sort.ahead w m) g 0 d).heap.size=w.heap.size:=by simp [Sort.putRow,Sort.mapBlock,Sort.ahead]
 refine ⟨⟨⟨rfl,rfl,rfl,?_,fun b hb hne=>?_⟩,?_⟩,Sort.putCells enc 0 d cur,?_,?_,?_⟩
 ·show _≤((Sort.putRow enc (Sort.ahead w m) g 0 d).heap++os).size;rw [Array.size_append,hsz];omega
 ·show ((Sort.putRow enc (Sort.ahead w m) g 0 d).heap++os)[b]?=_;rw [Array.getElem?_append_left (by rw [hsz];exact hb)];exact gX (w:=Sort.ahead w m) (fun e=>hne (by rw [e]))
 ·show w.drawn≤w.drawn+m;omega
 ·show ((Sort.putRow enc (Sort.ahead w m) g 0 d).heap++os)[g]?=_;rw [Array.getElem?_append_left (by rw [hsz];exact hlt)];show ((Sort.ahead w m).heap.modify g _)[g]?=_;rw [Array.getElem?_modify,if_pos rfl];show (w.heap[g]?).map _=_;rw [hg];rfl
 ·simp [Sort.putCells]
 apply List.ext_getElem?;intro i;rw [List.getElem?_take,List.getElem?_map];by_cases hi:i < d.size
 ·rw [if_pos hi];simp only [Sort.putCells,Array.getElem?_toList,Array.getElem?_mapIdx];have h1:cur[i]?=some cur[i]:=Array.getElem?_eq_getElem (by omega);have h2:d[i]?=some d[i]:=Array.getElem?_eq_getElem hi;rw [h1,h2];simp [hi]
 rw [if_neg hi];have:d[i]?=none:=Array.getElem?_eq_none (by omega);simp [this]
section
variable {P:Program} {r:Option Nat} {n:aU} {p:List PanicEntry→aU} {ops:Array Oper} {rest:List Oper} {d:Nat} {ty:TypeId} {pos:String} {af:Array Edge} {x:Fr} {Hs:List Hp} {σ:aP} {L:bM}
theorem iP.swo {α:Type} {f:α→α→Option Int} {l:List α} (h:iP f l):Sort.SWO (ltOf fun (a b:{x // x∈l})=>(f a.1 b.1).getD 0)∧(∀ a b:{x // x∈l},ltOf (fun (a b:{x // x∈l})=>(f a.1 b.1).getD 0) a b=dY f a.1 b.1):=by
 have key:∀ a b:{x // x∈l},ltOf (fun (a b:{x // x∈l})=>(f a.1 b.1).getD 0) a b=dY f a.1 b.1:=fun a b=>by
  obtain ⟨c,hc⟩:=h.some_ a.1 a.2 b.1 b.2;simp [ltOf,dY,hc]
 refine ⟨⟨fun a=>by rw [key];exact h.irr _ a.2,fun a b c h1 h2=>by rw [key] at *;exact h.tr _ a.2 _ b.2 _ c.2 h1 h2,fun a b c h1 h2=>?_⟩,key⟩;rw [key] at *
 cases h3:dY f a.1 c.1 with
 | false=>rfl
 | true =>
  exfalso
  cases h4:dY f b.1 a.1 with
  | true =>
   have:=h.tr _ b.2 _ a.2 _ c.2 h4 h3;rw [this] at h2;cases h2
  | false =>
   have e:=h.tot _ a.2 _ b.2 h1 h4;rw [e] at h3;rw [h3] at h2;cases h2
theorem nW {α:Type} (f:α→α→Option Int) (l:List α) (lt:{x // x∈l}→{x // x∈l}→Bool) (h:∀ a b,lt a b=dY f a.1 b.1):(l.attach.mergeSort fun a b=>!lt b a).map (·.1)=l.mergeSort fun x y=>!dY f y x:=by
 rw [List.map_mergeSort (s:=fun x y=>!dY f y x) (fun a _ b _=>by rw [h b a])];congr 1;exact List.attach_map_subtype_val l
theorem sN {α:Type} [Inhabited α] {enc:α→Value} {M:Prop} {w0 w:World} {H0:Hp} {g m:Nat} {d:Array α} {os:Array Obj} (hS:St M w0 H0 Hs σ w) {tg:Nat} {y:aK} (hy:bJ σ tg=some y) (hg:y.foot=some g):(eL w0 H0 σ w).le (hp (sortWorld enc w g 0 m d os)):=by
 intro b o hb;have hw:=hS.vis_le b o hb;have hne:b≠g:=by
  rintro rfl;unfold eL at hb;rw [if_pos ⟨tg,y,dH hy,hg⟩] at hb;cases hb
 have hlt:b < w.heap.size:=(Array.getElem?_eq_some_iff.1 hw).1;show ((Sort.putRow enc (Sort.ahead w m) g 0 d).heap++os)[b]?=_;rw [Array.getElem?_append_left (by simp [Sort.putRow,Sort.mapBlock,Sort.ahead];exact hlt)];exact (gX (w:=Sort.ahead w m) hne).trans hw
theorem BE {α:Type} {H:Hp} {g:FuncId} {cb:List Value} {V V':Hp→Value→α→Prop} {f:α→α→Option Int} (hF:iD True P H (.func (.func g) #[] cb.toArray) (ES V V' (fun c=>.int .i64 c) f)) :
  (∀ args w,(callFunc g args).run P w=.ok (.enter g args) w)∧∀ w,H.le (hp w)→∀ u v a b c,V H u a→V' H v b→f a b=some c→Calls P g (#[u,v]++cb.toArray) w fun e w'=>e=.returned (.int .i64 c)∧∃ q os',w'=Sort.grow (w.drewN q) os':=by
 obtain ⟨g',first,cap,e,hc,hr⟩:=hF;simp only [Value.func.injEq,Fn.func.injEq] at e;obtain ⟨rfl,h1,h2⟩:=e;have h1':first=[]:=by simpa using h1.symm
 have h2':cb=cap:=by simpa using h2
 subst h1';subst h2';refine ⟨hc,fun w hw u v a b c hu hv hfc=>?_⟩;have:=hr w H [u,v] (.int .i64 c) (Hp.le.refl _) hw ⟨u,v,a,b,c,rfl,hu,hv,hfc,rfl⟩;have e2:([]++[u,v]++cb).toArray = #[u,v]++cb.toArray:=by simp
 rw [e2] at this;refine this.mono fun e w' he=>?_
 cases e with
 | returned z=>exact ⟨by rw [he.1],GZ trivial he.2⟩
 | panicked _=>exact he.elim
 | outgrown=>exact he.elim
theorem TA {α:Type} (tg:Nat) {enc:α→List Value} (enc1:α→Value) (he:∀ x,enc x=[enc1 x]) (h1:∀ x,(enc1 x).oneCell'=true) {l l':List α} {f:α→α→Option Int} {fid:Nat} {z y s:Operand} {ats:Array TypeId} {ad:Option Addr} {cap nn:Nat} {el:TypeId} {g:FuncId} {cb:List Value} {V V':Hp→Value→α→Prop}
  (hC:SZ P fid) (hcall:∀ args w,(callFunc fid args).run P w=.ok (.enter fid args) w) (hd:Nat.blt d x.k=true) (hz:ev L z=some (.func (.func fid) #[] #[])) (hs:ev L s=some (.slice ad nn cap)) (hσ:bJ σ tg=some (.list ad cap el 1 enc l)) (hn:nn=l.length) (hy:ev L y=some (.func (.func g) #[] cb.toArray))
  (hF:∀ H,EO Hs H→iD True P H (.func (.func g) #[] cb.toArray) (ES V V' (fun c=>.int .i64 c) f)) (hV:∀ H u,V H (enc1 u) u) (hV':∀ H u,V' H (enc1 u) u) (hso:fU f l=some l')
  (h:OG P r ops n p x Hs (cE σ tg (.list ad cap el 1 enc l')) ((d,.tuple #[])::L) rest):OG P r ops n p x Hs σ L (⟨some d,.call ⟨.value z,#[s,y],ats⟩,ty,pos,af,none⟩::rest):=fun a w hS hA=>by
 subst hn;obtain ⟨hok,hm⟩:=gW hso;obtain ⟨eg,hcmp⟩:=BE (hF (eL x.w0 x.H0 σ w) fun i K hi=>hS.at i hi);have hrow:=hS.get hσ;have hxs:lO L [s,y]=some [.slice ad l.length cap,.func (.func g) #[] cb.toArray]:=by simp [lO,hs,hy]
 have fin:∀ w',St x.M x.w0 x.H0 Hs (cE σ tg (.list ad cap el 1 enc l')) w'→O P r ops n p rest (a.put (some d) (.tuple #[])) w':=fun w' hS'=>h _ w' hS' (hA.put hd _);have enterIt:∀ R:Ending→World→Prop,Calls P fid #[.slice ad l.length cap,.func (.func g) #[] cb.toArray] w R→(∀ e w',R e w'→e=.returned (.tuple #[])∧St x.M x.w0 x.H0 Hs (cE σ tg (.list ad cap el 1 enc l')) w')→O P r ops n p (⟨some d,.call ⟨.value z,#[s,y],ats⟩,ty,pos,af,none⟩::rest) a w:=fun R hR hk=>by
  refine eX rfl (fun _ h=>by cases h) (eA (xs:=[s,y]) (first:=#[]) (cap:=#[]) hA hz hxs hcall) (by simpa using hR) ?_ ?_ ?_
  ·intro v w' hv;obtain ⟨e,hS'⟩:=hk _ _ hv;cases e;exact fin w' hS'
  ·intro ch w' hv;cases (hk _ _ hv).1
  intro w' hv;cases (hk _ _ hv).1
 by_cases hl:l=[]
 ·subst hl;have hl':l'=[]:=by rw [← hm];simp
  subst hl';refine enterIt _ (hC.1 ad cap _ w) fun e w' hw=>⟨hw.1,?_⟩;rw [hw.2];exact hS.as tg hσ rfl
 rcases hrow.2 with ⟨hn0,_⟩ | ⟨b,cap',cur,hv,_,hg,hnc,hcm,hcs,ht⟩
 ·simp only [Value.slice.injEq] at hn0;exact absurd (List.eq_nil_of_length_eq_zero hn0.2.1) hl
 simp only [Value.slice.injEq] at hv;obtain ⟨rfl,_,rfl⟩:=hv;rw [Nat.mul_one] at hcs ht;have hx0:∃ u,u∈l:=List.exists_mem_of_ne_nil l hl
 haveI:Inhabited {u // u∈l}:=⟨⟨hx0.choose,hx0.choose_spec⟩⟩
 obtain ⟨hO,hlt⟩:=hok.swo;have hflat:∀ q:List α,q.flatMap enc=q.map enc1:=fun q=>by
  induction q with
  | nil=>rfl
  | cons a q ih=>simp [List.flatMap_cons,he,ih]
 have hsz:l.attach.toArray.size=l.length:=by simp
 have hHolds:Sort.Holds (fun u:{u // u∈l}=>enc1 u.1) w b 0 l.attach.toArray:=fun j hj=>by
  rw [hsz] at hj;have hcj:cur[j]?=some (enc1 l[j]):=by
   have:(cur.toList.take l.length)[j]?=(l.map enc1)[j]?:=by rw [ht,hflat]
   rw [List.getElem?_take,if_pos hj,Array.getElem?_toList,List.getElem?_map,List.getElem?_eq_getElem hj] at this;exact this
  have hgj:l.attach.toArray[j]!.1=l[j]:=by
   rw [getElem!_pos _ j (by rw [hsz];exact hj)];simp
  refine ⟨?_,?_⟩
  ·unfold World.cell?;rw [hg];simp only [Option.isSome_none,Bool.false_eq_true,if_false,Nat.zero_add];rw [hcj,hgj]
  unfold World.frozen?;rw [hg];simp
 have hcmp':CmpLays1 P g cb.toArray (fun u:{u // u∈l}=>enc1 u.1) (fun a b=>(f a.1 b.1).getD 0) b 0 l.attach.toArray.size w:=fun m os dk _ u v=>by
  obtain ⟨c,hc⟩:=hok.some_ u.1 u.2 v.1 v.2;have:=hcmp (sortWorld (fun u:{u // u∈l}=>enc1 u.1) w b 0 m dk os) (sN hS hσ rfl) (enc1 u.1) (enc1 v.1) u.1 v.1 c (hV _ _) (hV' _ _) hc;have e3:(f u.1 v.1).getD 0=c:=by rw [hc];rfl
  show Calls P g _ _ fun e w'=>e=.returned (.int .i64 ((f u.1 v.1).getD 0))∧_;rw [e3];exact this
 have hb:b < w.heap.size:=(Array.getElem?_eq_some_iff.1 hg).1;have hbig:l.attach.toArray.size < 4611686018427387904:=by
  rw [hsz];exact Nat.lt_of_le_of_lt hok.small (by decide)
 have hT:∀ u v:{u // u∈l},ltOf (fun (a b:{u // u∈l})=>(f a.1 b.1).getD 0) u v=false→ltOf (fun (a b:{u // u∈l})=>(f a.1 b.1).getD 0) v u=false→u=v:=fun u v h1 h2=>by
  rw [hlt] at h1 h2;exact Subtype.ext (hok.tot _ u.2 _ v.2 h1 h2)
 have hcon:=hC.2 {u // u∈l} inferInstance (fun u=>enc1 u.1) (fun u=>h1 u.1) (fun (a b:{u // u∈l})=>(f a.1 b.1).getD 0) hO g cb.toArray b 0 cap l.attach.toArray w eg hcmp' hHolds hb hbig hT;rw [hsz] at hcon;have hS2:(l.attach.toArray.toList.mergeSort fun a b=>!ltOf (fun (a b:{u // u∈l})=>(f a.1 b.1).getD 0) b a).map (fun u=>enc1 u.1)=l'.map enc1:=by
  have:=nW f l _ hlt;rw [hm] at this;rw [← this,List.map_map];rfl
 have hS1:(l.attach.toArray.toList.mergeSort fun a b=>!ltOf (fun (a b:{u // u∈l})=>(f a.1 b.1).getD 0) b a).length=l.length:=by
  rw [List.length_mergeSort];exact List.length_attach
 generalize (l.attach.toArray.toList.mergeSort fun a b=>!ltOf (fun (a b:{u // u∈l})=>(f a.1 b.1).getD 0) b a)=S at hcon hS1 hS2;refine enterIt _ hcon fun e w' hw=>⟨hw.1,?_⟩;obtain ⟨_,m,os,rfl⟩:=hw;have hms:S.toArray.size=l.length:=by rw [List.size_toArray];exact hS1
 obtain ⟨hG,cur',hg',hcs',ht'⟩:=rL (enc:=fun u:{u // u∈l}=>enc1 u.1) (m:=m) (os:=os) (d:=S.toArray) hg (by rw [hms,hcs];exact hnc);have hlen:l'.length=l.length:=gK hso;refine hS.step hσ hG ?_ (fun b' hb'=>.inl hb');refine ⟨by rw [hflat,List.length_map,Nat.mul_one],.inr ⟨b,cap,cur',by rw [hlen],Nat.zero_le _,hg',by omega,hcm,by rw [hcs',hcs,Nat.mul_one],?_⟩⟩;rw [hms] at ht';rw [Nat.mul_one,hlen,ht',hflat];exact hS2
end
end Pk
namespace Pk
open Go
theorem tv:True:=⟨⟩
theorem sj {α:Type} {x y:α} (h:some x=some y):x=y:=Option.some.inj h
section
variable {P:Program} {r:Option Nat} {ops:Array Oper} {ms:List Nat} {D:List Deferred} {k:Nat} {M:Prop} {w0:World} {H0:Hp} {Hs:List Hp} {σ:aP} {L0:bM} {pp:List PanicEntry→aU} {i:Nat} {o:Oper} {rest:List Oper} {E:bM} {F:bP} {d:Nat} {v:Value}
theorem dt {fin:bM→bP→Prop} (hd:o.dst=some d) (hX:∀ {K},TG ⟨D,k,M,w0,H0⟩ (K::Hs) σ (RA (o.looksAt ops) E++L0) (O P r ops (fun a' w'=>∃ (_:Unit) (K':Hp),K.le K'∧St M w0 H0 (K'::Hs) σ w'∧a'.tmps[d]?=some v∧a'.defers=D∧True) pp [o]))
  (h:DF P r ops ms D k M w0 H0 Hs σ L0 pp fin (i+1) rest ((d,v)::E) F):DF P r ops ms D k M w0 H0 Hs σ L0 pp fin i (o::rest) E F :=
 .det hd (fun a w K hS hA _=>hX a w hS hA) h
theorem dc {us:List Nat} {T:List (Nat×Nat×Value)} {Sg:Option (Nat→Value→aP)} {fin:aP→bM→bP→Prop} {prev:List (Nat×aP)} (hne:us.contains i=false) (hb:KE us ms i=true) (hp:HP (fun τ=>τ=σ) (ms.getD i 0) prev) (hn:dV T i=true) (hd:o.dst=some d)
  (hX:∀ {K},TG ⟨D,k,M,w0,H0⟩ (K::Hs) σ (RA (o.looksAt ops) E++L0) (O P r ops (fun a' w'=>∃ (_:Unit) (K':Hp),K.le K'∧St M w0 H0 (K'::Hs) σ w'∧a'.tmps[d]?=some v∧a'.defers=D∧True) pp [o]))
  (h:DC P r ops ms D k M w0 H0 Hs L0 pp us T Sg fin prev σ (i+1) rest ((d,v)::E) F):DC P r ops ms D k M w0 H0 Hs L0 pp us T Sg fin prev σ i (o::rest) E F :=
 .det (fun τ=>τ=σ) hne rfl hb hp hn hd (fun τ hτ a w K hS hA _=>by subst hτ;exact hX a w hS hA) h
end
def gd (ops:Array Oper) (L:bM) (j:Nat):Option Value:=((ops[j]?).bind (·.dst)).bind (lk L)
def eb (d k:Nat) (v:Option Value):Option Value:=bif Nat.blt d k then v else none
theorem mJ {d k:Nat} {v:Option Value} {u:Value} (h:eb d k v=some u):Nat.blt d k=true∧v=some u:=by
 unfold eb at h
 cases hb:Nat.blt d k with
 | true=>rw [hb] at h;exact ⟨rfl,h⟩
 | false=>rw [hb] at h;cases h
theorem CQ {ops:Array Oper} {L:bM} {j:Nat} {v:Value} (h:gd ops L j=some v):∃ dj,(ops[j]?).bind (·.dst)=some dj∧lk L dj=some v:=by
 unfold gd at h
 cases hb:(ops[j]?).bind (·.dst) with
 | none=>rw [hb] at h;cases h
 | some dj=>rw [hb] at h;exact ⟨dj,rfl,h⟩
section
variable {P:Program} {r:Option Nat} {n:aU} {p:List PanicEntry→aU} {ops:Array Oper} {rest:List Oper} {d:Nat} {ty:TypeId} {pos:String} {af:Array Edge} {x:Fr} {Hs:List Hp} {σ:aP} {L:bM}
theorem gt {op:Op} {dst:Option Nat} {j:Nat} {q:Prop} [Decidable q] (hq:q) (hb:gd ops L j=some (.bool (decide q))) (h:OG P r ops n p x Hs σ L (⟨dst,op,ty,pos,af,none⟩::rest)):OG P r ops n p x Hs σ L (⟨dst,op,ty,pos,af,some (j,true)⟩::rest):=by
 obtain ⟨dj,h1,h2⟩:=CQ hb;exact gN h1 h2 (decide_eq_true hq) h
theorem gf {op:Op} {j:Nat} {q:Prop} [Decidable q] (hq:¬q) (hb:eb d x.k (gd ops L j)=some (.bool (decide q))) (h:OG P r ops n p x Hs σ ((d,undef)::L) rest):OG P r ops n p x Hs σ L (⟨some d,op,ty,pos,af,some (j,true)⟩::rest):=by
 obtain ⟨hd,hb⟩:=mJ hb;obtain ⟨dj,h1,h2⟩:=CQ hb;exact gF h1 h2 (decide_eq_false hq) hd h
theorem cK {op:Op} {dst:Option Nat} {j:Nat} {q:Prop} [Decidable q] (hq:¬q) (hb:gd ops L j=some (.bool (decide q))) (h:OG P r ops n p x Hs σ L (⟨dst,op,ty,pos,af,none⟩::rest)):OG P r ops n p x Hs σ L (⟨dst,op,ty,pos,af,some (j,false)⟩::rest):=by
 obtain ⟨dj,h1,h2⟩:=CQ hb;exact gN h1 h2 (decide_eq_false hq) h
theorem cX {op:Op} {j:Nat} {q:Prop} [Decidable q] (hq:q) (hb:eb d x.k (gd ops L j)=some (.bool (decide q))) (h:OG P r ops n p x Hs σ ((d,undef)::L) rest):OG P r ops n p x Hs σ L (⟨some d,op,ty,pos,af,some (j,false)⟩::rest):=by
 obtain ⟨hd,hb⟩:=mJ hb;obtain ⟨dj,h1,h2⟩:=CQ hb;exact gF h1 h2 (decide_eq_true hq) hd h
theorem m1 {y:Operand} {v:Value} (hy:eb d x.k (ev L y)=some v) (h:OG P r ops n p x Hs σ ((d,v)::L) rest):OG P r ops n p x Hs σ L (⟨some d,.move y,ty,pos,af,none⟩::rest):=mv (mJ hy).1 (mJ hy).2 h
theorem a1 {y:Operand} {v:Value} (hy:eb d x.k (ev L y)=some v) (h:OG P r ops n p x Hs σ ((d,v)::L) rest):OG P r ops n p x Hs σ L (⟨some d,.assign y,ty,pos,af,none⟩::rest):=av (mJ hy).1 (mJ hy).2 h
theorem pt {c y z:Operand} {q:Prop} [Decidable q] {v:Value} (hq:q) (hc:ev L c=some (.bool (decide q))) (hv:eb d x.k (ev L y)=some v) (h:OG P r ops n p x Hs σ ((d,v)::L) rest):OG P r ops n p x Hs σ L (⟨some d,.pick c y z,ty,pos,af,none⟩::rest):=pT (mJ hv).1 hc (decide_eq_true hq) (mJ hv).2 h
theorem pf {c y z:Operand} {q:Prop} [Decidable q] {v:Value} (hq:¬q) (hc:ev L c=some (.bool (decide q))) (hv:eb d x.k (ev L z)=some v) (h:OG P r ops n p x Hs σ ((d,v)::L) rest):OG P r ops n p x Hs σ L (⟨some d,.pick c y z,ty,pos,af,none⟩::rest):=pF (mJ hv).1 hc (decide_eq_false hq) (mJ hv).2 h
theorem cu {M:Prop} {w0:World} {H0:Hp} {D:List Deferred} {k:Nat} {L':bM} (h:QZ L L'):∀ a w,St M w0 H0 Hs σ w→aX D k a L→St M w0 H0 Hs σ w∧aX D k a L':=fun a w hS hA=>⟨hS,hA.cut h⟩
end
end Pk
namespace Pk
open Go
abbrev kD:=Option Addr×Nat
abbrev Hd:=Option Addr×Nat×Nat
def YY {α:Type}:List kD→List (List α)→List Hd
 | a::az,y::g=>(a.1,y.length,a.2)::YY az g
 | _,_=>[]
def dS {α:Type} (el:TypeId) (size:Nat) (enc:α→List Value):Nat→List kD→List (List α)→aP
 | i,a::az,y::g=>(i,.list a.1 a.2 el size enc y)::dS el size enc (i+1) az g
 | _,_,_=>[]
section
variable {α:Type}
variable {hd:List Hd} {az:List kD} {g:List (List α)} {j:Nat} {y z:List α} {ad:Option Addr} {cap:Nat}
variable {el:TypeId} {size:Nat} {enc:α→List Value}
end
theorem dG:∀ {σ:aP},eQ σ↔(σ.map (·.2)).Pairwise apart
 | []=>by simp [eQ]
 | (i,x)::σ=>by
  simp only [eQ,List.map_cons,List.pairwise_cons,List.mem_map,dG (σ:=σ)];refine and_congr ⟨?_,?_⟩ Iff.rfl
  ·rintro h y ⟨⟨k,z⟩,hm,rfl⟩;exact h k z hm
  intro h k y hm;exact h y ⟨(k,y),hm,rfl⟩
theorem St.re {M:Prop} {w0:World} {H0:Hp} {Hs:List Hp} {σ σ':aP} {w:World} (h:St M w0 H0 Hs σ w) (hm:∀ i z,(i,z)∈σ'→(∃ j,(j,z)∈σ)∨∃ el size,z=.row none 0 el size 0 []) (ha:eQ σ'):St M w0 H0 Hs σ' w:=by
 refine ⟨h.h0,h.ext,?_,?_,ha⟩
 ·intro H hH;refine (h.le H hH).trans ?_;intro b o hb;unfold eL at hb ⊢
  split at hb
  ·cases hb
  rename_i hnf
  rw [if_neg ?_]
  ·exact hb
  rintro ⟨i,z,hz,hf⟩;rcases hm i z hz with ⟨j,hj⟩ | ⟨el,size,rfl⟩
  ·exact hnf ⟨j,z,hj,hf⟩
  cases hf
 intro i z hz;rcases hm i z hz with ⟨j,hj⟩ | ⟨el,size,rfl⟩
 ·exact h.own j z hj
 exact (h.nilRow 0 el size).own 0 _ List.mem_cons_self
theorem lS (x:aK) (el:TypeId) (size:Nat):apart (.row none 0 el size 0 []) x:=fun b h=>by cases h
theorem sP:∀ {A:aP} {t:Nat} {X:aK},bJ A t=some X→(A.map (·.2)).Perm (X::(cD A t).map (·.2))
 | [],t,X,h=>by simp [bJ] at h
 | (i,x)::A,t,X,h=>by
  by_cases e:i=t
  ·subst e;simp [bJ] at h;subst h;simp [cD]
  simp only [bJ,cV e,cond_false] at h;simp only [cD,cV e,cond_false,List.map_cons];exact ((sP h).cons x).trans (.swap X x _)
theorem HA {R:aK→aK→Prop} (hs:∀ {x y},R x y→R y x) {x:aK}:∀ {l:List aK} {i:Nat},(x::l).Pairwise R→(l.set i x).Pairwise R
 | [],_,_=>by simp
 | y::l,0,h=>by
  simp only [List.set_cons_zero,List.pairwise_cons] at *;exact ⟨fun z hz=>h.1 z (List.mem_cons_of_mem _ hz),h.2.2⟩
 | y::l,i+1,h=>by
  simp only [List.set_cons_succ,List.pairwise_cons] at *;refine ⟨fun z hz=>?_,HA hs (List.pairwise_cons.2 ⟨fun z hz=>h.1 z (List.mem_cons_of_mem _ hz),h.2.2⟩)⟩;rcases List.mem_or_eq_of_mem_set hz with h1 | rfl
  ·exact h.2.1 z h1
  exact hs (h.1 y List.mem_cons_self)
theorem rM {α:Type} {el:TypeId} {size:Nat} {enc:α→List Value}:∀ {az:List kD} {g:List (List α)} {i j:Nat} {ad:Option Addr} {cap:Nat} {l:List α},(dS el size enc i (az.set j (ad,cap)) (g.set j l)).map (·.2)=((dS el size enc i az g).map (·.2)).set j (.list ad cap el size enc l)
 | [],_,_,_,_,_,_=>by simp [dS]
 | _::_,[],_,_,_,_,_=>by simp [dS]
 | a::az,y::g,i,0,ad,cap,l=>by simp [dS]
 | a::az,y::g,i,j+1,ad,cap,l=>by
  have:=rM (az:=az) (g:=g) (i:=i+1) (j:=j) (ad:=ad) (cap:=cap) (l:=l) (el:=el) (size:=size) (enc:=enc);simp only [List.set_cons_succ,dS,List.map_cons,this]
section
variable {α:Type} {x:Fr} {Hs:List Hp} {σ:aP} {L:bM} {N:aU} {el:TypeId} {size:Nat} {enc:α→List Value} {az:List kD} {g:List (List α)}
theorem TG.eq {σ':aP} (e:σ=σ') (h:TG x Hs σ' L N):TG x Hs σ L N:=e▸h
theorem TG.absorb (A:aP) {B:aP} (t:Nat) {b j:Nat} {ad:Option Addr} {cap:Nat} {l:List α} (ht:bJ A t=some (.list ad cap el size enc l)) (hB:cD A t=B) (h:TG x Hs (B++dS el size enc b (az.set j (ad,cap)) (g.set j l)) L N):TG x Hs (A++dS el size enc b az g) L N:=by
 subst hB;intro a w hS hA;refine h a w (hS.re ?_ ?_) hA
 ·intro i z hz;left;rcases List.mem_append.1 hz with h1 | h1
  ·exact ⟨i,List.mem_append_left _ (iT h1)⟩
  have h2:z∈(dS el size enc b (az.set j (ad,cap)) (g.set j l)).map (·.2):=List.mem_map.2 ⟨_,h1,rfl⟩;rw [rM] at h2;rcases List.mem_or_eq_of_mem_set h2 with h3 | rfl
  ·obtain ⟨⟨k,z'⟩,h4,rfl⟩:=List.mem_map.1 h3;exact ⟨k,List.mem_append_right _ h4⟩
  exact ⟨t,List.mem_append_left _ (dH ht)⟩
 have ha:=dG.1 hS.apart;rw [dG];rw [List.map_append] at ha ⊢;have hp:=(sP ht).append_right ((dS el size enc b az g).map (·.2));have ha2:=(hp.pairwise_iff (R:=apart) (fun h=>dI h)).1 ha;rw [List.cons_append] at ha2;have:=HA (R:=apart) (fun h=>dI h) (i:=((cD A t).map (·.2)).length+j) ha2;rw [List.set_append_right _ _ (by omega),Nat.add_sub_cancel_left] at this;rw [rM];exact this
theorem TG.gopen (el:TypeId) (size:Nat) (enc:α→List Value) (b n:Nat) (h:TG x Hs (σ++dS el size enc b (List.replicate n (none,0)) (List.replicate n [])) L N):TG x Hs σ L N:=by
 have hall:∀ (n b i:Nat) (z:aK),(i,z)∈dS el size enc b (List.replicate n (none,0)) (List.replicate n [])→z=.row none 0 el size 0 []:=by
  intro n
  induction n with
  | zero=>intro b i z h;simp [dS] at h
  | succ n ih =>
   intro b i z h;simp only [List.replicate_succ,dS,List.mem_cons,Prod.mk.injEq] at h;rcases h with ⟨_,rfl⟩ | h
   ·rfl
   exact ih _ _ _ h
 intro a w hS hA;refine h a w (hS.re ?_ ?_) hA
 ·intro i z hz;rcases List.mem_append.1 hz with h1 | h1
  ·exact .inl ⟨i,h1⟩
  exact .inr ⟨el,size,hall _ _ _ _ h1⟩
 rw [dG,List.map_append,List.pairwise_append];refine ⟨dG.1 hS.apart,?_,?_⟩
 ·refine List.Pairwise.imp_of_mem (R:=fun _ _=>True) (fun {u v} hu hv _=>?_) (List.pairwise_of_forall fun _ _=>trivial);obtain ⟨⟨i,z⟩,h1,rfl⟩:=List.mem_map.1 hu;rw [hall _ _ _ _ h1];exact lS _ _ _
 intro u hu v hv;obtain ⟨⟨i,z⟩,h1,rfl⟩:=List.mem_map.1 hv;rw [hall _ _ _ _ h1];exact dI (lS _ _ _)
end
structure yW (P:Program) (t el:TypeId) (z:List Value) (size:Nat):Prop where
 zero:∃ v,bF v=z∧∀ w,(zeroValue t).run P w=.ok v w
 desc:∃ n,P.underlying t=some (.array n el)
 sz:∀ w,(Go.sizeOf el).run P w=.ok size w
section
variable {P:Program} {r:Option Nat} {n:aU} {p:List PanicEntry→aU} {ops:Array Oper} {rest:List Oper} {d:Nat} {ty:TypeId} {pos:String} {af:Array Edge} {x:Fr} {Hs:List Hp} {σ:aP} {L:bM}
theorem buA {t el:TypeId} {xs:List (Nat×Operand)} {vs:List (Nat×Value)} {z cs:List Value} {size:Nat} (hb:yW P t el z size) (hd:Nat.blt d x.k=true) (hx:eD L xs=some vs) (hf:fJ (fun i=>some (i*size,size)) z vs=some cs) (h:OG P r ops n p x Hs σ ((d,.agg cs.toArray)::L) rest):OG P r ops n p x Hs σ L (⟨some d,.build t xs.toArray,ty,pos,af,none⟩::rest):=fun c w hS hA=>by
 obtain ⟨v,hv,hz⟩:=hb.zero;obtain ⟨m,hu⟩:=hb.desc;have hm:=fS hA hx;have hfill:Instr.fill (fun i=>some (i*size,size)) v.cells vs=some cs.toArray:=by rw [eY,hv,rI,hf];rfl
 have hrun:(Instr.build t vs.toArray).run P w=.ok (.agg cs.toArray) w:=by
  simp only [Instr.build,Sem.run_bind,hz,run_underlying hu,Result.andThen,hb.sz,hfill];rfl
 exact cB rfl (fun _ h=>by cases h) (w':=w) (v:=.agg cs.toArray) (by simp [execOp,hm,hrun]) (h _ w hS (hA.put hd _))
end
end Pk
namespace Pk
open Go Go.Proofs
theorem jK {α:Type} [Inhabited α] {enc:α→List Value} {k:Nat} (hk:∀ x,(enc x).length=k) (d:Array α):(Sort.flatK enc k d).toList=d.toList.flatMap enc:=by
  have hlen:(d.toList.flatMap enc).length=d.size*k:=by rw [eO hk];simp
  apply List.ext_getElem?;intro t;by_cases ht:t < d.size*k
  · have k0:0 < k := by rcases Nat.eq_zero_or_pos k with h | h
                        · subst h;simp at ht
                        exact h
    have hq:t/k < d.size:=Nat.div_lt_of_lt_mul (by rwa [Nat.mul_comm] at ht);have hr:t%k < k:=Nat.mod_lt _ k0;have h1:d.toList[t/k]?=some d[t/k]!:=by rw [Array.getElem?_toList,Array.getElem?_eq_getElem hq,getElem!_pos d _ hq]
    have h2:∀ q:α,(enc q)[t%k]?=some (enc q)[t%k]!:=fun q=>by
      rw [List.getElem?_eq_getElem (by rw [hk];exact hr),getElem!_pos (enc q) _ (by rw [hk];exact hr)]
    have h3:=nQ hk d.toList (t/k) _ h1 (t%k) _ (h2 _);rw [show t/k*k+t%k=t by rw [Nat.mul_comm];exact Nat.div_add_mod t k] at h3;rw [h3,Array.getElem?_toList,Array.getElem?_eq_getElem (by simpa using ht),← Sort.get_flatK enc k d t ht,getElem!_pos (Sort.flatK enc k d) t (by simpa using ht)]
  rw [List.getElem?_eq_none (by simp;omega),List.getElem?_eq_none (by omega)]
section
variable {P:Program} {r:Option Nat} {n:aU} {p:List PanicEntry→aU} {ops:Array Oper} {rest:List Oper} {d:Nat} {ty:TypeId} {pos:String} {af:Array Edge} {x:Fr} {Hs:List Hp} {σ:aP} {L:bM}
theorem YZ {α:Type} (tg:Nat) {enc:α→List Value} {k:Nat} (hk:∀ x,(enc x).length=k) (h1:∀ x,(enc x).all (·.oneCell')=true) {l l':List α} {f:α→α→Option Int} {fid:Nat} {z y s:Operand} {ats:Array TypeId} {ad:Option Addr} {cap nn:Nat} {el:TypeId} {g:FuncId} {cb:List Value} {V V':Hp→Value→α→Prop}
  (hC:OH P fid k) (hcall:∀ args w,(callFunc fid args).run P w=.ok (.enter fid args) w) (hd:Nat.blt d x.k=true) (hz:ev L z=some (.func (.func fid) #[] #[])) (hs:ev L s=some (.slice ad nn cap)) (hσ:bJ σ tg=some (.list ad cap el k enc l)) (hn:nn=l.length) (hy:ev L y=some (.func (.func g) #[] cb.toArray))
  (hF:∀ H,EO Hs H→iD True P H (.func (.func g) #[] cb.toArray) (ES V V' (fun c=>.int .i64 c) f)) (hV:∀ H u,V H (.agg (enc u).toArray) u) (hV':∀ H u,V' H (.agg (enc u).toArray) u) (hso:fU f l=some l')
  (h:OG P r ops n p x Hs (cE σ tg (.list ad cap el k enc l')) ((d,.tuple #[])::L) rest):OG P r ops n p x Hs σ L (⟨some d,.call ⟨.value z,#[s,y],ats⟩,ty,pos,af,none⟩::rest):=fun a w hS hA=>by
 subst hn;obtain ⟨hok,hm⟩:=gW hso;obtain ⟨eg,hcmp⟩:=BE (hF (eL x.w0 x.H0 σ w) fun i K hi=>hS.at i hi);have hrow:=hS.get hσ;have hxs:lO L [s,y]=some [.slice ad l.length cap,.func (.func g) #[] cb.toArray]:=by simp [lO,hs,hy]
 have fin:∀ w',St x.M x.w0 x.H0 Hs (cE σ tg (.list ad cap el k enc l')) w'→O P r ops n p rest (a.put (some d) (.tuple #[])) w':=fun w' hS'=>h _ w' hS' (hA.put hd _);have enterIt:∀ R:Ending→World→Prop,Calls P fid #[.slice ad l.length cap,.func (.func g) #[] cb.toArray] w R→(∀ e w',R e w'→e=.returned (.tuple #[])∧St x.M x.w0 x.H0 Hs (cE σ tg (.list ad cap el k enc l')) w')→O P r ops n p (⟨some d,.call ⟨.value z,#[s,y],ats⟩,ty,pos,af,none⟩::rest) a w:=fun R hR hk=>by
  refine eX rfl (fun _ h=>by cases h) (eA (xs:=[s,y]) (first:=#[]) (cap:=#[]) hA hz hxs hcall) (by simpa using hR) ?_ ?_ ?_
  ·intro v w' hv;obtain ⟨e,hS'⟩:=hk _ _ hv;cases e;exact fin w' hS'
  ·intro ch w' hv;cases (hk _ _ hv).1
  intro w' hv;cases (hk _ _ hv).1
 by_cases hl:l=[]
 ·subst hl;have hl':l'=[]:=by rw [← hm];simp
  subst hl';refine enterIt _ (hC.1 ad cap _ w) fun e w' hw=>⟨hw.1,?_⟩;rw [hw.2];exact hS.as tg hσ rfl
 rcases hrow.2 with ⟨hn0,_⟩ | ⟨b,cap',cur,hv,_,hg,hnc,hcm,hcs,ht⟩
 ·simp only [Value.slice.injEq] at hn0;exact absurd (List.eq_nil_of_length_eq_zero hn0.2.1) hl
 simp only [Value.slice.injEq] at hv;obtain ⟨rfl,_,rfl⟩:=hv;have hx0:∃ u,u∈l:=List.exists_mem_of_ne_nil l hl
 haveI:Inhabited {u // u∈l}:=⟨⟨hx0.choose,hx0.choose_spec⟩⟩
 obtain ⟨hO,hlt⟩:=hok.swo;have hk':∀ u:{u // u∈l},(enc u.1).length=k:=fun u=>hk u.1;have hatt:l.attach.flatMap (fun u=>enc u.1)=l.flatMap enc:=by
  rw [List.flatMap_def,List.flatMap_def];congr 1;exact List.attach_map_val
 have hfl:(Sort.flatK (fun u:{u // u∈l}=>enc u.1) k l.attach.toArray).toList=l.flatMap enc:=by
  rw [jK hk'];exact hatt
 have hsz:l.attach.toArray.size=l.length:=by simp
 have hHolds:Sort.HoldsK (fun u:{u // u∈l}=>enc u.1) k w b 0 l.attach.toArray:=fun j hj=>by
  rw [Sort.size_flatK,hsz] at hj;have hj2:j < (Sort.flatK (fun u:{u // u∈l}=>enc u.1) k l.attach.toArray).size:=by rw [Sort.size_flatK,hsz];exact hj
  have hcj:cur[j]?=some ((Sort.flatK (fun u:{u // u∈l}=>enc u.1) k l.attach.toArray)[j]!):=by
   have h0:(cur.toList.take (l.length*k))[j]?=(l.flatMap enc)[j]?:=by rw [ht]
   rw [List.getElem?_take,if_pos hj,Array.getElem?_toList] at h0;rw [h0,← hfl,Array.getElem?_toList,Array.getElem?_eq_getElem hj2,getElem!_pos (Sort.flatK (fun u:{u // u∈l}=>enc u.1) k l.attach.toArray) j hj2]
  refine ⟨?_,?_⟩
  ·unfold World.cell?;rw [hg];simp only [Option.isSome_none,Bool.false_eq_true,if_false,Nat.zero_add,id];rw [hcj]
  unfold World.frozen?;rw [hg];simp
 have hcmp':CmpLays P g cb.toArray (fun u:{u // u∈l}=>enc u.1) k (fun a b=>(f a.1 b.1).getD 0) b 0 l.attach.toArray.size w:=fun m os dk _ u v=>by
  obtain ⟨c,hc⟩:=hok.some_ u.1 u.2 v.1 v.2;have:=hcmp (sortWorldK (fun u:{u // u∈l}=>enc u.1) k w b 0 m dk os) (sN (enc:=id) hS hσ rfl) (.agg (enc u.1).toArray) (.agg (enc v.1).toArray) u.1 v.1 c (hV _ _) (hV' _ _) hc;have e3:(f u.1 v.1).getD 0=c:=by rw [hc];rfl
  show Calls P g _ _ fun e w'=>e=.returned (.int .i64 ((f u.1 v.1).getD 0))∧_;rw [e3];exact this
 have hb:b < w.heap.size:=(Array.getElem?_eq_some_iff.1 hg).1;have hbig:l.attach.toArray.size < 4611686018427387904:=by
  rw [hsz];exact Nat.lt_of_le_of_lt hok.small (by decide)
 have hT:∀ u v:{u // u∈l},ltOf (fun (a b:{u // u∈l})=>(f a.1 b.1).getD 0) u v=false→ltOf (fun (a b:{u // u∈l})=>(f a.1 b.1).getD 0) v u=false→u=v:=fun u v h1 h2=>by
  rw [hlt] at h1 h2;exact Subtype.ext (hok.tot _ u.2 _ v.2 h1 h2)
 have hcon:=hC.2 {u // u∈l} inferInstance (fun u=>enc u.1) hk' (fun u v hv=>List.all_eq_true.1 (h1 u.1) v hv) (fun (a b:{u // u∈l})=>(f a.1 b.1).getD 0) hO g cb.toArray b 0 cap l.attach.toArray w eg hcmp' hHolds hb hbig hT;rw [hsz] at hcon;have hS2:(l.attach.toArray.toList.mergeSort fun a b=>!ltOf (fun (a b:{u // u∈l})=>(f a.1 b.1).getD 0) b a).flatMap (fun u=>enc u.1)=l'.flatMap enc:=by
  have:=nW f l _ hlt;rw [hm] at this;rw [← this,List.flatMap_map]
 have hS1:(l.attach.toArray.toList.mergeSort fun a b=>!ltOf (fun (a b:{u // u∈l})=>(f a.1 b.1).getD 0) b a).length=l.length:=by
  rw [List.length_mergeSort];exact List.length_attach
 generalize (l.attach.toArray.toList.mergeSort fun a b=>!ltOf (fun (a b:{u // u∈l})=>(f a.1 b.1).getD 0) b a)=S at hcon hS1 hS2;refine enterIt _ hcon fun e w' hw=>⟨hw.1,?_⟩;obtain ⟨_,m,os,rfl⟩:=hw;have hms:(Sort.flatK (fun u:{u // u∈l}=>enc u.1) k S.toArray).size=l.length*k:=by rw [Sort.size_flatK,List.size_toArray,hS1]
 obtain ⟨hG,cur',hg',hcs',ht'⟩:=rL (enc:=id) (m:=m) (os:=os) (d:=Sort.flatK (fun u:{u // u∈l}=>enc u.1) k S.toArray) hg (by rw [hms,hcs];exact Nat.mul_le_mul_right _ hnc);have hlen:l'.length=l.length:=gK hso;refine hS.step hσ hG ?_ (fun b' hb'=>.inl hb');refine ⟨by rw [eO hk],.inr ⟨b,cap,cur',by rw [hlen],Nat.zero_le _,hg',by omega,hcm,by rw [hcs',hcs],?_⟩⟩;rw [hms,List.map_id,jK hk'] at ht';rw [hlen,ht'];exact hS2
end
end Pk
namespace Pk
open Go
section
variable {P:Program} {r:Option Nat} {n:aU} {p:List PanicEntry→aU} {ops:Array Oper} {rest:List Oper} {d:Nat} {ty:TypeId} {pos:String} {af:Array Edge} {x:Fr} {Hs:List Hp} {σ:aP} {L:bM}
end
end Pk
namespace Pk
open Go
section
variable {α:Type} {hd:List Hd} {az:List kD} {g:List (List α)} {j:Nat} {ad:Option Addr} {cap:Nat} {el:TypeId} {size:Nat} {enc:α→List Value}
theorem wO {A:aP} {z:aK} (h:z∈A.map (·.2)):∃ i,(i,z)∈A:=by
 obtain ⟨⟨i,z'⟩,hm,rfl⟩:=List.mem_map.1 h;exact ⟨i,hm⟩
theorem St.perm {M:Prop} {w0:World} {H0:Hp} {Hs:List Hp} {σ σ':aP} {w:World} {ns:List aK} (hS:St M w0 H0 Hs σ w) (hp:(σ'.map (·.2)).Perm (ns++σ.map (·.2))) (hn:∀ z∈ns,∃ el size,z=.row none 0 el size 0 []):St M w0 H0 Hs σ' w:=by
 refine hS.re (fun i z hz=>?_) ?_
 ·have:z∈ns++σ.map (·.2):=hp.subset (List.mem_map.2 ⟨_,hz,rfl⟩);rcases List.mem_append.1 this with h | h
  ·exact .inr (hn z h)
  exact .inl (wO h)
 rw [dG,hp.pairwise_iff (fun h=>dI h),List.pairwise_append];refine ⟨?_,dG.1 hS.apart,?_⟩
 ·refine List.Pairwise.imp_of_mem (R:=fun _ _=>True) (fun {u v} hu hv _=>?_) (List.pairwise_of_forall fun _ _=>trivial);obtain ⟨el,size,rfl⟩:=hn u hu;exact lS _ _ _
 intro u hu v hv;obtain ⟨el,size,rfl⟩:=hn u hu;exact lS _ _ _
variable {x:Fr} {Hs:List Hp} {L:bM} {N:aU}
theorem yX {α:Type}:∀ {l:List α} {i:Nat} {x y:α},l[i]?=some x→(x::l.set i y).Perm (y::l)
 | [],_,_,_,h=>by simp at h
 | z::l,0,x,y,h=>by simp at h;subst h;simp only [List.set_cons_zero];exact .swap _ _ _
 | z::l,i+1,x,y,h=>by
  have:=yX (l:=l) (i:=i) (x:=x) (y:=y) (by simpa using h);simp only [List.set_cons_succ];exact (List.Perm.swap z x _).trans ((this.cons z).trans (.swap y z _))
theorem TG.focus (A:aP) (t:Nat) {b:Nat} {l:List α} (ha:az[j]?=some (ad,cap)) (hg:g[j]?=some l) (h:TG x Hs ((t,.list ad cap el size enc l)::(A++dS el size enc b (az.set j (none,0)) (g.set j []))) L N):TG x Hs (A++dS el size enc b az g) L N:=by
 intro a w hS hA;refine h a w (hS.perm (ns:=[.row none 0 el size 0 []]) ?_ (by simp)) hA;simp only [List.map_cons,List.map_append];rw [rM];have h0:((dS el size enc b az g).map (·.2))[j]?=some (.list ad cap el size enc l):=by
  clear hS hA h
  induction az generalizing g j b with
  | nil=>simp at ha
  | cons a0 az ih =>
   cases g with
   | nil=>simp at hg
   | cons y g =>
    cases j with
    | zero=>simp at ha hg;subst ha;subst hg;simp [dS]
    | succ j=>simp only [dS,List.map_cons,List.getElem?_cons_succ];exact ih (by simpa using ha) (by simpa using hg)
 have hp:=yX (y:=aK.list (none:Option Addr) 0 el size enc ([]:List α)) h0;have e0:(aK.list (none:Option Addr) 0 el size enc ([]:List α))=.row none 0 el size 0 []:=rfl;rw [e0] at hp ⊢;refine List.Perm.trans (List.perm_middle.symm) ?_;refine List.Perm.trans (List.Perm.append_left _ hp) ?_;exact List.perm_middle
end
end Pk
namespace Pk
open Go Go.Proofs
theorem OI (q:Addr) (a b:Nat):(q.add a).add b=q.add (a+b):=by
 unfold Addr.add;by_cases ha:a=0 <;> by_cases hb:b=0 <;> simp [ha,hb,Nat.add_assoc]
theorem rB {q:Addr} {a b:Nat} {u:Operand} {L:bM} (h:ev L u=some (.pointer (some ((q.add a).add b)))):ev L u=some (.pointer (some (q.add (a+b)))):=by
 rw [h,OI]
theorem RF {q:Addr} {a b c:Nat} {u:Operand} {L:bM} (h:ev L u=some (.pointer (some (((q.add a).add b).add c)))):ev L u=some (.pointer (some (q.add (a+(b+c))))):=by
 rw [h,OI,OI]
section
variable {P:Program} {r:Option Nat} {n:aU} {p:List PanicEntry→aU} {ops:Array Oper} {rest:List Oper} {d:Nat} {ty:TypeId} {pos:String} {af:Array Edge} {x:Fr} {Hs:List Hp} {σ:aP} {L:bM}
end
end Pk
namespace Pk
open Go
section
variable {α:Type} {hd:List Hd} {az:List kD} {g:List (List α)} {ad:Option Addr} {cap:Nat} {el iel:TypeId} {size:Nat} {enc:α→List Value}
variable {x:Fr} {Hs:List Hp} {σ:aP} {L:bM} {N:aU}
theorem St.seen {w0:World} {H0:Hp} {w:World} {σ':aP} {b:Nat} {o:Obj} (hb:w0.heap.size≤b) (hn:¬eG σ' b) (ho:w.heap[b]?=some o):eL w0 H0 σ' w b=some o:=by
 unfold eL;rw [if_neg hn,if_neg (by omega)];exact ho
end
end Pk
namespace Pk
open Go
inductive Any where
 | i (n:Int)
 | s (b:aA)
deriving DecidableEq,Inhabited
section
variable {P:Program} {r:Option Nat} {n:aU} {p:List PanicEntry→aU} {ops:Array Oper} {rest:List Oper} {d:Nat} {ty:TypeId} {pos:String} {af:Array Edge} {x:Fr} {Hs:List Hp} {σ:aP} {L:bM}
end
end Pk
namespace Pk
open Go Go.Proofs
theorem ZA {H:Type} {enc:TypeId×Value→H} {C:Checked} {os:Os} {f:FuncId} {fn:Func} {s:ChangeSpec} {cd:List PathCond} {X:World→Prop} (hX:∀ w w':World,w.heap=w'.heap→X w→X w')
  (own:ownKnob C.prog.godebug=none) (st:os.Started) (ni:C.prog.inits.idxOf? f=none) (hfn:C.prog.funcs[f]?=some fn)
  (wit:∃ (w:World) (tape:Tape) (i:Input),w.os=os∧(w.forCall tape i).Shaped C.prog∧i.vars=[]∧Input.okWide C.prog (w.forCall tape i) .any w.heap.size f i ∧
   ((s.pre enc C.prog fn cd false (w.forCall tape i).memory i.args∧X (w.forCall tape i).memory)∧sizedMet enc C.prog fn (OpenSpec.ofChange s) false (w.forCall tape i).memory i.args)∧({}:Assume).holds C.prog (lone (Frame.enter C.prog f i.args .normal) [] (w.forCall tape i)))
  (main:∀ (W:World) (base:Nat) (args:Array Value) (ds gs:List (DataW H)) (before:List MemPlace),(∀ (j:Nat) t v,fn.params[j]?=some t→args[j]?=some v→Value.okWide C.prog W .any base t v) →
   DataW.Whole enc C.prog fn.params.toList s.vars false W args.toList ds gs before→(DataW.weightsEach C.prog (fn.params.toList++s.plain.varTypes C.prog) (ds++gs)).all (· ≤ reachBytes)=true→X W→W.ShapedOpen C.prog →
   Calls C.prog f args W fun e W'=>∃ v,e=.returned v∧s.post enc C.prog fn false true false false W args v W') :
  ReturnsInHanded {} C os f .any (fun w args=>(s.pre enc C.prog fn cd false w args∧X w)∧sizedMet enc C.prog fn (OpenSpec.ofChange s) false w args) (s.post enc C.prog fn false true false false):=by
 refine returnsInHanded_of_calls own st ni wit fun w tape i _ hsh _ hok hpre _=>?_;obtain ⟨_,_,_,fn',hfn',_,_,_,_,hval⟩:=hok;obtain rfl:fn'=fn:=Option.some.inj (hfn'.symm.trans hfn);obtain ⟨⟨⟨ds,gs,before,hw,_⟩,hx⟩,hz⟩:=hpre;refine (main (w.forCall tape i) w.heap.size i.args ds gs before hval (DataW.Whole.of_heap (w':=w.forCall tape i) (by rfl) hw) (hz.weights hw) (hX _ _ (by rfl) hx) hsh).mono fun e W' h=>?_;obtain ⟨v,rfl,hp⟩:=h;exact ChangeSpec.post_blind hp
theorem EV {w:World} {g:Nat} {v:Value} (h:w.cell? ⟨g,0,none⟩=some v):bD (hp w) ⟨g,0,none⟩ [v]:=by
 refine ⟨rfl,fun j u hu=>?_⟩
 cases j with
 | succ j=>simp at hu
 | zero =>
  obtain rfl:v=u:=by simpa using hu
  unfold World.cell? at h;simp only [] at h
  cases hb:w.heap[g]? with
  | none=>simp [hb] at h
  | some o =>
   cases o <;> simp [hb] at h
   rename_i cs t z
   exact ⟨cs,t,z,hb,by simpa using h⟩
theorem TB {a b:Bool} (ha:a=true) (hb:b=true):(a&&b)=true:=by rw [ha,hb];rfl
end Pk
namespace Pk
open Go Go.Proofs
def MJ (P:Program) (f:FuncId) (el:TypeId) (k:Nat):Prop :=
 ∀ (w:World) (n:Nat),n≤1073741824→Calls P f #[.slice none 0 0,.int .i64 n] w fun e w'=>∃ ad cap,e=.returned (.slice ad 0 cap)∧(aK.row ad cap el k 0 []).holds w'∧(∀ M,dZ M w w')∧∀ b,ad.map (·.block)=some b→w.heap.size≤b
theorem HB {w:World} {el n:Nat} {z:Value} {k:Nat} (hz:z.cells.size=k) (hn:n≤1073741824):(aK.row (some ⟨w.heap.size,0,none⟩) (grownCap w n 0 el) el k 0 []).holds (w.drew.alloc (.cells (Builtin.zeroCells z.cells n++Builtin.zeroCells z.cells (grownCap w n 0 el - n)) el)):=by
 have h1:=grownCap_ge w n 0 el;have h2:=grownCap_le_maxLen w n 0 el (by unfold maxLen;omega);refine ⟨by simp,.inr ⟨w.heap.size,grownCap w n 0 el,_,rfl,Nat.zero_le _,dO w.drew _,Nat.zero_le _,h2,?_,by simp⟩⟩;rw [Array.size_append,size_zeroCells,size_zeroCells,hz,← Nat.add_mul];congr 1;omega
theorem HD (M:Prop) (w:World) (o:Obj):dZ M w (w.drew.alloc o) :=
 ⟨rfl,rfl,rfl,(dZ.alloc M w o).size,fun b hb=>(dZ.alloc M w o).keep b hb,fun _=>Nat.le_add_right _ _⟩
section
variable {P:Program} {r:Option Nat} {n:aU} {p:List PanicEntry→aU} {ops:Array Oper} {rest:List Oper} {d:Nat} {ty:TypeId} {pos:String} {af:Array Edge} {x:Fr} {Hs:List Hp} {σ:aP} {L:bM}
theorem grw {α:Type} (tg:Nat) (enc:α→List Value) {k:Nat} (j:Nat) {fid:Nat} {z y s:Operand} {ats:Array TypeId} {el:TypeId} {m:Int}
  (hC:MJ P fid el k) (hcall:∀ args w,(callFunc fid args).run P w=.ok (.enter fid args) w) (hd:Nat.blt d x.k=true) (hz:ev L z=some (.func (.func fid) #[] #[])) (hs:ev L s=some (.slice none 0 0)) (hy:ev L y=some (.int .i64 m)) (hm:m=(j:Int)) (hb:j≤1073741824)
  (h:∀ ad cap,OG P r ops n p x Hs ((tg,.list ad cap el k enc [])::σ) ((d,.slice ad ([]:List α).length cap)::L) rest):OG P r ops n p x Hs σ L (⟨some d,.call ⟨.value z,#[s,y],ats⟩,ty,pos,af,none⟩::rest):=fun a w hS hA=>by
 subst hm;have hxs:lO L [s,y]=some [.slice none 0 0,.int .i64 (j:Int)]:=by simp [lO,hs,hy]
 refine eX rfl (fun _ h=>by cases h) (eA (xs:=[s,y]) (first:=#[]) (cap:=#[]) hA hz hxs hcall) (by simpa using hC w j hb) ?_ ?_ ?_
 ·intro u w' hv;obtain ⟨ad,cap,e,hh,hE,hf⟩:=hv;have hf:∀ b,(aK.list ad cap el k enc ([]:List α)).foot=some b→w.heap.size≤b:=fun b hb=>by
   obtain ⟨a,ha,rfl⟩:=Option.map_eq_some_iff.1 hb;exact hf a ha
  cases e;exact h ad cap _ w' (hS.add (hE x.M) tg (x:=.list ad cap el k enc []) hh hf) (hA.put hd _)
 ·intro ch w' hv;obtain ⟨_,_,e,_⟩:=hv;cases e
 intro w' hv;obtain ⟨_,_,e,_⟩:=hv;cases e
end
end Pk
namespace Pk
open Go Go.Proofs
abbrev FX (v:Value):List PanicEntry:=[{ v:=v,recovered:=false }]
def EW {α:Type} (M:Prop) (W:World) (f:α→Value) (tv:Value) (o:α⊕Unit):Ending→World→Prop:=fun e w=>match o with
 | .inl r=>e=.returned (f r)∧dZ M W w
 | .inr _=>e=.panicked (FX tv)∧dZ M W w
theorem CR {α:Type} {M:Prop} {W w:World} {f:α→Value} {tv v:Value} {r:α} (h:v=f r) (hE:dZ M W w):EW M W f tv (.inl r) (.returned v) w:=⟨by rw [h],hE⟩
theorem rN {α:Type} {M:Prop} {W w:World} {f:α→Value} {tv:Value} {u:Unit} (hE:dZ M W w):EW M W f tv (.inr u) (.panicked (FX tv)) w:=⟨rfl,hE⟩
section
variable {P:Program} {r:Option Nat} {n:aU} {p:List PanicEntry→aU} {ops:Array Oper} {rest:List Oper} {dst:Option Nat} {ty:TypeId} {pos:String} {af:Array Edge} {x:Fr} {Hs:List Hp} {σ:aP} {L:bM}
theorem pnc {y:Operand} {t:TypeId} {v:Value} (hy:ev L y=some (.iface t v)) (h:TG x Hs σ L (p (FX (.iface t v)))):OG P r ops n p x Hs σ L (⟨dst,.panic y,ty,pos,af,none⟩::rest):=fun a w hS hA=>by
 show O P r ops n p _ a w;simp only [O,Region.wanted,if_true];refine ⟨fun _ _=>trivial,?_⟩;rw [Oper.semAt_eq _ _ _ (fun c h=>by cases h)];have e:(execOp a.eval ⟨dst,.panic y,ty,pos,af,none⟩).run P w=.halt (.panic (.iface t v)) w:=by
  simp [execOp,hA.eval hy,Instr.panic,goPanic]
 rw [e];exact h a w hS hA
end
end Pk
namespace Pk
open Go Go.Proofs
section
variable {P:Program} {r:Option Nat} {n rt:aU} {e:List (Nat×aU)} {p:List PanicEntry→aU} {a:Act} {w:World}
variable {D:List Deferred} {k:Nat} {L:bM} {ops:Array Oper} {rest:List Oper} {d:Nat} {ty:TypeId} {pos:String} {af:Array Edge} {dst:Option Nat}
variable {M:Prop} {w0:World} {H0:Hp} {Hs:List Hp} {σ:aP}
end
section
variable {P:Program} {r:Option Nat} {n:aU} {p:List PanicEntry→aU} {ops:Array Oper} {rest:List Oper} {d:Nat} {ty:TypeId} {pos:String} {af:Array Edge} {x:Fr} {Hs:List Hp} {σ:aP} {L:bM}
end
end Pk
namespace Pk
open Go Go.Proofs
end Pk
namespace Pk
open Go Go.Proofs
end Pk
namespace Pk
open Go Go.Proofs
theorem BF {P:Program} {w:World} {src dst el:TypeId} (hs:P.underlying src=some (.slice el)) (he:P.underlying el=some (.int .u8)) (hdst:P.underlying dst=some .string) {ad:Option Addr} {cap:Nat} {l:aA} (hl:Sl (aS cN) 1 (hp w) ad cap l) :
  (convert src dst (.slice ad l.length cap)).run P w=.ok (.string (bs l)) w:=by
 cases ad with
 | none =>
  have:l=[]:=by
   cases l with
   | nil=>rfl
   | cons c l=>obtain ⟨p,_,h,_⟩:=hl.2 0 c rfl;cases h
  subst this;exact run_convert_bytes_nil w src el hs he _ _ dst hdst
 | some a =>
  have h:=run_loadCells_list (P:=P) w a (l.map fun c=>Value.int .u8 c.toNat) (fun j v hj=>by
   rw [List.getElem?_map,Option.map_eq_some_iff] at hj;obtain ⟨c,hc,rfl⟩:=hj;obtain ⟨p,cs,h1,h2,h3,h4,h5⟩:=hl.2 j c hc;cases h1;have h5:cs=cN c:=h5;subst h5;have:=h4.cell (j:=0) (v:=.int .u8 c.toNat) rfl;rw [Nat.mul_one] at this;have e:(a.add j).add 0=a.add j:=by rw [cP h2];rfl
   rwa [e] at this)
  rw [List.length_map] at h;have h2:(l.map fun c=>Value.int .u8 c.toNat).toArray=((l.map fun c=>(c.toNat:Int)).map (Value.int .u8)).toArray:=by rw [List.map_map];rfl
  rw [h2] at h;rw [run_convert_bytes_string w src dst el _ _ cap hs he hdst,run_bytesToString w _ _ cap _ h,foldl_push_bytes];congr 2;unfold bs;have:(List.map (fun n=>UInt8.ofNat n.toNat) (List.map (fun c=>(c.toNat:Int)) l))=l:=by
   rw [List.map_map]
   conv=>rhs;rw [← List.map_id l]
   exact List.map_congr_left fun c _=>by simp
  rw [this];show ByteArray.mk (#[]++l.toArray)=_;simp
section
variable {P:Program} {r:Option Nat} {n:aU} {p:List PanicEntry→aU} {ops:Array Oper} {rest:List Oper} {d:Nat} {ty:TypeId} {pos:String} {af:Array Edge} {x:Fr} {Hs:List Hp} {σ:aP} {L:bM}
theorem FY {src dst el:TypeId} {y:Operand} {ad:Option Addr} {cap:Nat} {l:aA} {H:Hp} (hl:Sl (aS cN) 1 H ad cap l) (i:Nat) (hi:Hs[i]?=some H) (hs:P.underlying src=some (.slice el)) (he:P.underlying el=some (.int .u8)) (hdst:P.underlying dst=some .string) (hd:Nat.blt d x.k=true) (hy:ev L y=some (.slice ad l.length cap))
  (h:OG P r ops n p x Hs σ ((d,.string (bs l))::L) rest):OG P r ops n p x Hs σ L (⟨some d,.convert src dst y,ty,pos,af,none⟩::rest):=fun c w hS hA=>by
 refine cB rfl (fun _ h=>by cases h) (w':=w) (v:=.string (bs l)) ?_ (h _ w hS (hA.put hd _));simp [execOp,hA.eval hy,BF hs he hdst (hl.mono (aS.mono _) (hS.hp i hi))]
theorem ZB {t:Int} (h:0≤t∧t≤255):bF (.int .u8 t)=cN (UInt8.ofNat t.toNat):=by
 have:((UInt8.ofNat t.toNat).toNat:Int)=t:=by
  rw [UInt8.toNat_ofNat'];omega
 simp [bF,cN];omega
theorem mV {α:Type} (x:α):([x]:List α).length=1:=rfl
theorem mD {y z:Operand} {t u:TypeId} {a b:aA} (hd:Nat.blt d x.k=true) (hy:ev L y=some (.string (bs a))) (hz:ev L z=some (.string (bs b))) (hl:a.length+b.length≤1073741824) (h:OG P r ops n p x Hs σ ((d,.string (bs (a++b)))::L) rest):OG P r ops n p x Hs σ L (⟨some d,.binOp .add t y z u,ty,pos,af,none⟩::rest):=fun c w hS hA=>by
 refine cB rfl (fun _ h=>by cases h) (w':=w) (v:=.string (bs (a++b))) ?_ (h _ w hS (hA.put hd _));have e:bs a++bs b=bs (a++b):=by
  apply ByteArray.ext;simp [bs]
 have hle:¬(IntKind.i64.max < (((bs a).size+(bs b).size:Nat):Int)):=by
  rw [dQ,dQ];have:IntKind.i64.max=9223372036854775807:=by decide
  omega
 simp [execOp,hA.eval hy,hA.eval hz,eqGuard,binOp,Op.stringOp,e];simpa using hle
end
end Pk
namespace Pk
open Go Go.Proofs
def MK (bs:List Nat):aP:=bs.map fun b=>(1000000,aK.blk b (.deferred (some [])))
theorem oX:∀ {σ:aP},eQ σ↔(σ.map Prod.snd).Pairwise apart
 | []=>by simp [eQ]
 | (i,x)::σ=>by
  rw [eQ,List.map_cons,List.pairwise_cons,oX];constructor
  ·rintro ⟨h1,h2⟩;refine ⟨fun y hy=>?_,h2⟩;obtain ⟨⟨j,z⟩,hz,rfl⟩:=List.mem_map.1 hy;exact h1 j z hz
  rintro ⟨h1,h2⟩;exact ⟨fun j y hy=>h1 y (List.mem_map.2 ⟨(j,y),hy,rfl⟩),h2⟩
theorem St.permO {M:Prop} {w0 w:World} {H0:Hp} {Hs:List Hp} {σ σ':aP} (h:(σ'.map Prod.snd).Perm (σ.map Prod.snd)) (hS:St M w0 H0 Hs σ w):St M w0 H0 Hs σ' w:=by
 have mem:∀ {i x},(i,x)∈σ'→∃ j,(j,x)∈σ:=fun {i x} hx=>by
  have h2:x∈σ.map Prod.snd:=h.subset (List.mem_map.2 ⟨(i,x),hx,rfl⟩);obtain ⟨⟨j,z⟩,hz,rfl⟩:=List.mem_map.1 h2;exact ⟨j,hz⟩
 have mem':∀ {i x},(i,x)∈σ→∃ j,(j,x)∈σ':=fun {i x} hx=>by
  have h2:x∈σ'.map Prod.snd:=h.symm.subset (List.mem_map.2 ⟨(i,x),hx,rfl⟩);obtain ⟨⟨j,z⟩,hz,rfl⟩:=List.mem_map.1 h2;exact ⟨j,hz⟩
 have hv:eL w0 H0 σ' w=eL w0 H0 σ w:=by
  funext b;have:eG σ' b↔eG σ b:=by
   constructor
   ·rintro ⟨i,x,hx,hb⟩;obtain ⟨j,hj⟩:=mem hx;exact ⟨j,x,hj,hb⟩
   rintro ⟨i,x,hx,hb⟩;obtain ⟨j,hj⟩:=mem' hx;exact ⟨j,x,hj,hb⟩
  unfold eL;by_cases hf:eG σ' b
  ·rw [if_pos hf,if_pos (this.1 hf)]
  rw [if_neg hf,if_neg (fun h=>hf (this.2 h))]
 refine ⟨hS.h0,hS.ext,fun H hH=>by rw [hv];exact hS.le H hH,fun i x hx=>?_,?_⟩
 ·obtain ⟨j,hj⟩:=mem hx;exact hS.own j x hj
 rw [oX];exact h.symm.pairwise (oX.1 hS.apart) (fun hxy=>dI hxy)
section
variable {x:Fr} {Hs:List Hp} {σ:aP} {L:bM} {N:aU}
theorem TG.permO {σ':aP} (hp:(σ'.map Prod.snd).Perm (σ.map Prod.snd)) (h:TG x Hs σ' L N):TG x Hs σ L N:=fun a w hS hA=>h a w (hS.permO hp) hA
theorem dT:∀ {σ:aP} {t:Nat} {o:aK},bJ σ t=some o→(o::(cD σ t).map Prod.snd).Perm (σ.map Prod.snd)
 | [],t,o,h=>by simp [bJ] at h
 | (i,z)::σ,t,o,h=>by
  by_cases e:i=t
  ·subst e;simp only [bJ,dN,cond_true,Option.some.injEq] at h;subst h;simp [cD,dN]
  simp only [bJ,cV e,cond_false] at h;simp only [cD,cV e,cond_false,List.map_cons];exact (List.Perm.swap z o _).trans ((dT h).cons z)
theorem TG.absM {A A':aP} {bs:List Nat} (t:Nat) {b:Nat} (hA:bJ A t=some (.blk b (.deferred (some [])))) (hA':cD A t=A') (h:TG x Hs (A'++MK (b::bs)) L N):TG x Hs (A++MK bs) L N:=by
 subst hA';refine TG.permO ?_ h;simp only [MK,List.map_cons,List.map_append];refine List.perm_middle.trans ?_;rw [← List.cons_append];exact (dT hA).append_right _
variable {P:Program} {fn:Func} {R:Ending→World→Prop}
theorem wP {A:aP}:∀ {bs:List Nat},TG x Hs A L (RB P fn R [])→TG x Hs (A++MK bs) L (RB P fn R (bs.map mk1))
 | [],h=>by simpa [MK] using h
 | b::bs,h=>by
  refine TG.permO (σ':=(2000000,.blk b (.deferred (some [])))::(A++MK bs)) ?_ (rtT 2000000 rfl (TG.del 2000000 ?_))
  ·simp only [MK,List.map_cons,List.map_append];exact List.perm_middle.symm
  exact wP h
end
end Pk
namespace Pk
open Go Go.Proofs
theorem u8e {t:Int} (h:0≤t∧t≤255):[Value.int .u8 t]=cN (UInt8.ofNat t.toNat):=ZB h
section
variable {P:Program} {r:Option Nat} {n:aU} {p:List PanicEntry→aU} {ops:Array Oper} {rest:List Oper} {d:Nat} {ty:TypeId} {pos:String} {af:Array Edge} {x:Fr} {Hs:List Hp} {σ:aP} {L:bM} {N:aU}
variable {κ α:Type} {ke:κ→Value} {enc:α→Value}
variable [DecidableEq κ] {kd:TypeDesc} [sJ ke kd]
end
end Pk
namespace Pk
open Go Go.Proofs Go.Sort
def oY (x:aA):Value:=.string (bs x)
def OJ (P:Program) (fid:FuncId) (args:List Value) (l l':List aA) (w:World) (V:Hp):Prop :=
 (l=[]→∀ a cap,Calls P fid (.slice a 0 cap::args).toArray w fun e w'=>e=.returned (.slice a 0 cap)∧w'=w) ∧
 ∀ blk cap,V blk=none→Sort.Holds oY w blk 0 l.toArray→l.length≤cap→Calls P fid (.slice (some ⟨blk,0,none⟩) l.length cap::args).toArray w fun e w' =>
  e=.returned (.slice (some ⟨blk,0,none⟩) l'.length cap)∧∃ (q:Nat) (os:Array Obj) (r:List aA),w'=sortWorld oY w blk 0 q (l'++r).toArray os∧(l'++r).length=l.length
section
variable {P:Program} {r:Option Nat} {n:aU} {p:List PanicEntry→aU} {ops:Array Oper} {rest:List Oper} {d:Nat} {ty:TypeId} {pos:String} {af:Array Edge} {x:Fr} {Hs:List Hp} {σ:aP} {L:bM}
theorem TC (tg:Nat) {l l':List aA} {fid:Nat} {z s:Operand} {xs:List Operand} {vs:List Value} {ats:Array TypeId} {ad:Option Addr} {cap nn:Nat} {el:TypeId}
  (hC:∀ w,St x.M x.w0 x.H0 Hs σ w→OJ P fid vs l l' w (eL x.w0 x.H0 σ w)) (h0:l=[]→l'=[]) (hcall:∀ args w,(callFunc fid args).run P w=.ok (.enter fid args) w) (hd:Nat.blt d x.k=true) (hz:ev L z=some (.func (.func fid) #[] #[])) (hs:ev L s=some (.slice ad nn cap)) (hxs:lO L xs=some vs) (hσ:bJ σ tg=some (.list ad cap el 1 aN l)) (hn:nn=l.length)
  (h:OG P r ops n p x Hs (cE σ tg (.list ad cap el 1 aN l')) ((d,.slice ad l'.length cap)::L) rest):OG P r ops n p x Hs σ L (⟨some d,.call ⟨.value z,(s::xs).toArray,ats⟩,ty,pos,af,none⟩::rest):=fun a w hS hA=>by
 subst hn;have hrow:=hS.get hσ;have hev:lO L (s::xs)=some (.slice ad l.length cap::vs):=by simp [lO,hs,hxs]
 have fin:∀ w',St x.M x.w0 x.H0 Hs (cE σ tg (.list ad cap el 1 aN l')) w'→O P r ops n p rest (a.put (some d) (.slice ad l'.length cap)) w':=fun w' hS'=>h _ w' hS' (hA.put hd _);have enterIt:∀ R:Ending→World→Prop,Calls P fid (.slice ad l.length cap::vs).toArray w R→(∀ e w',R e w'→e=.returned (.slice ad l'.length cap)∧St x.M x.w0 x.H0 Hs (cE σ tg (.list ad cap el 1 aN l')) w')→O P r ops n p (⟨some d,.call ⟨.value z,(s::xs).toArray,ats⟩,ty,pos,af,none⟩::rest) a w:=fun R hR hk=>by
  refine eX rfl (fun _ h=>by cases h) (eA (first:=#[]) (cap:=#[]) hA hz hev hcall) (by simpa using hR) ?_ ?_ ?_
  ·intro v w' hv;obtain ⟨e,hS'⟩:=hk _ _ hv;cases e;exact fin w' hS'
  ·intro ch w' hv;cases (hk _ _ hv).1
  intro w' hv;cases (hk _ _ hv).1
 obtain ⟨hC0,hC1⟩:=hC w hS;by_cases hl:l=[]
 ·have hl':=h0 hl;subst hl;subst hl';refine enterIt _ (hC0 rfl ad cap) fun e w' hw=>⟨hw.1,?_⟩;rw [hw.2];exact hS.as tg hσ rfl
 rcases hrow.2 with ⟨hn0,_⟩ | ⟨b,cap',cur,hv,_,hg,hnc,hcm,hcs,ht⟩
 ·simp only [Value.slice.injEq] at hn0;exact absurd (List.eq_nil_of_length_eq_zero hn0.2.1) hl
 simp only [Value.slice.injEq] at hv;obtain ⟨rfl,_,rfl⟩:=hv;rw [Nat.mul_one] at hcs ht;have hflat:∀ q:List aA,q.flatMap aN=q.map oY:=fun q=>by
  induction q with
  | nil=>rfl
  | cons a q ih=>simp [List.flatMap_cons,aN,oY,ih]
 have hHolds:Sort.Holds oY w b 0 l.toArray:=fun j hj=>by
  have hj:j < l.length:=by simpa using hj
  have hcj:cur[j]?=some (oY l[j]):=by
   have:(cur.toList.take l.length)[j]?=(l.map oY)[j]?:=by rw [ht,hflat]
   rw [List.getElem?_take,if_pos hj,Array.getElem?_toList,List.getElem?_map,List.getElem?_eq_getElem hj] at this;exact this
  have hgj:l.toArray[j]! = l[j]:=by
   rw [getElem!_pos _ j (by simpa using hj)];simp
  refine ⟨?_,?_⟩
  ·unfold World.cell?;rw [hg];simp only [Option.isSome_none,Bool.false_eq_true,if_false,Nat.zero_add];rw [hcj,hgj]
  unfold World.frozen?;rw [hg];simp
 refine enterIt _ (hC1 b cap (by unfold eL;rw [if_pos ⟨tg,_,dH hσ,rfl⟩]) hHolds (by omega)) fun e w' hw=>⟨hw.1,?_⟩;obtain ⟨_,m,os,rr,rfl,hlen⟩:=hw;have hms:(l'++rr).toArray.size=l.length:=by rw [List.size_toArray];exact hlen
 obtain ⟨hG,cur',hg',hcs',ht'⟩:=rL (enc:=oY) (m:=m) (os:=os) (d:=(l'++rr).toArray) hg (by rw [hms,hcs];exact hnc);have hle:l'.length≤l.length:=by rw [← hlen,List.length_append];omega
 refine hS.step hσ hG ?_ (fun b' hb'=>.inl hb');refine ⟨by rw [hflat,List.length_map,Nat.mul_one],.inr ⟨b,cap,cur',rfl,Nat.zero_le _,hg',by omega,hcm,by rw [hcs',hcs,Nat.mul_one],?_⟩⟩;rw [hms] at ht';have e2:cur'.toList.take l'.length=(cur'.toList.take l.length).take l'.length:=by rw [List.take_take,Nat.min_eq_left hle]
 rw [Nat.mul_one,hflat,e2,ht'];simp
end
end Pk
namespace Pk
open Go Go.Proofs
section
variable {P:Program} {r:Option Nat} {n:aU} {p:List PanicEntry→aU} {ops:Array Oper} {rest:List Oper} {d:Nat} {ty:TypeId} {pos:String} {af:Array Edge} {x:Fr} {Hs:List Hp} {σ:aP} {L:bM}
end
end Pk
namespace Pk
open Go Go.Proofs
def jX (b:Nat) (k:Bool):Value:=.pointer (if k then some ⟨b,0,none⟩ else none)
section
variable {M:Prop} {w0:World} {H0:Hp} {Hs:List Hp} {σ:aP} {w:World}
theorem St.stepB (hM:¬M) (h:St M w0 H0 Hs σ w) {t:Nat} {x y:aK} (hx:bJ σ t=some x) {w':World} (hw:w.grownBy w' x.foot) (hy:y.holds w') (hf:∀ b,y.foot=some b→x.foot=some b∨w.heap.size≤b) :
  St M w0 H0 Hs (cE σ t y) w':=by
 have hxm:=dH hx;have hxo:=h.own t x hxm;have hsz:=hw.size;have hyM:∀ b,y.foot=some b→w0.heap.size≤b:=fun b hb=>by
  rcases hf b hb with h1 | h1
  ·exact hxo.2 b h1
  exact Nat.le_trans h.ext.size h1
 have hext:dZ M w0 w':=by
  refine ⟨hw.os.trans h.ext.os,hw.tape.trans h.ext.tape,hw.output.trans h.ext.output,Nat.le_trans h.ext.size hw.size,fun b hb=>?_,fun q=>absurd q hM⟩;refine (hw.block b (Nat.lt_of_lt_of_le hb h.ext.size) ?_).trans (h.ext.keep b hb);intro e;have:=hxo.2 b e.symm;omega
 refine ⟨h.h0,hext,?_,?_,?_⟩
 ·intro H hH b o hb;have hb1:=h.le H hH b o hb;unfold eL at hb1 ⊢
  split at hb1
  ·cases hb1
  rename_i hnf
  have hne:some b≠x.foot:=fun e=>hnf ⟨t,x,hxm,e.symm⟩;have hnf':¬eG (cE σ t y) b:=by
   rintro ⟨i,z,hz,hzf⟩;rcases iQ hx hz with rfl | h1
   ·rcases hf b hzf with h2 | h2
    ·exact hne h2.symm
    split at hb1
    ·rename_i hlt;have:=h.ext.size;omega
    have:=(Array.getElem?_eq_some_iff.1 hb1).1;omega
   exact hnf ⟨i,z,h1,hzf⟩
  rw [if_neg hnf']
  split at hb1
  ·rename_i hlt;rw [if_pos hlt];exact hb1
  rename_i hlt
  rw [if_neg hlt];have hlt':b < w.heap.size:=(Array.getElem?_eq_some_iff.1 hb1).1;exact (hw.block b hlt' hne).trans hb1
 ·intro i z hz;rcases mN h.apart hx i z hz with rfl | hap
  ·exact ⟨hy,hyM⟩
  rcases iQ hx hz with rfl | hzm
  ·exact ⟨hy,hyM⟩
  refine ⟨aK.kept (h.own i z hzm).1 (fun b hb=>hw.block b (aK.lt (h.own i z hzm).1 hb) (fun e=>hap b e.symm hb)),(h.own i z hzm).2⟩
 refine eQ.set h.apart hx ?_;intro i z hz hap b hyb hzb;rcases hf b hyb with h1 | h1
 ·exact hap b h1 hzb
 have:=aK.lt (h.own i z hz).1 hzb;omega
end
section
variable {P:Program} {r:Option Nat} {n:aU} {p:List PanicEntry→aU} {ops:Array Oper} {rest:List Oper} {d:Nat} {ty:TypeId} {pos:String} {af:Array Edge} {x:Fr} {Hs:List Hp} {σ:aP} {L:bM}
theorem TD {Hs':List Hp} (σ':aP) {y:Operand} {xs:List Operand} {ats:Array TypeId} {f:FuncId} {vs:List Value} {v:Value} (hcall:∀ args w,(callFunc f args).run P w=.ok (.enter f args) w) (hd:Nat.blt d x.k=true) (hz:ev L y=some (.func (.func f) #[] #[])) (hxs:lO L xs=some vs)
  (hC:∀ w,St x.M x.w0 x.H0 Hs σ w→Calls P f vs.toArray w fun e w'=>e=.returned v∧St x.M x.w0 x.H0 Hs' σ' w') (h:OG P r ops n p x Hs' σ' ((d,v)::L) rest):OG P r ops n p x Hs σ L (⟨some d,.call ⟨.value y,xs.toArray,ats⟩,ty,pos,af,none⟩::rest):=fun a w hS hA=>by
 refine eX rfl (fun _ h=>by cases h) (eA (first:=#[]) (cap:=#[]) hA hz hxs hcall) (by simpa using hC w hS) ?_ ?_ ?_
 ·rintro v' w' ⟨e,hS'⟩;cases e;exact h _ w' hS' (hA.put hd _)
 ·rintro ch w' ⟨e,_⟩;cases e
 rintro w' ⟨e,_⟩;cases e
theorem lT (l:aA):l.flatMap cN=l.map fun c=>Value.int .u8 c.toNat:=by
 induction l with
 | nil=>rfl
 | cons c l ih=>simp [List.flatMap_cons,cN,ih]
theorem apT (hM:¬x.M) (tg:Nat) {l s:aA} {t u el:TypeId} {i:TypeInfo} {y z:Operand} {ad:Option Addr} {cap nn:Nat} (ht:P.underlying t=some (.slice el)) (hu:P.underlying u=some .string) (hi:P.info? el=some i) (hz0:i.zero=some (.int .u8 0)) (hsz:i.size=1) (hby:i.bytes=1)
  (hd:Nat.blt d x.k=true) (hs:ev L y=some (.slice ad nn cap)) (hz:ev L z=some (.string (bs s))) (hσ:bJ σ tg=some (.list ad cap el 1 cN l)) (hn:nn=l.length) (hb:l.length+s.length≤1073741824)
  (h:∀ ad' cap',OG P r ops n p x Hs (cE σ tg (.list ad' cap' el 1 cN (l++s))) ((d,.slice ad' (l++s).length cap')::L) rest) :
  OG P r ops n p x Hs σ L (⟨some d,.call ⟨.builtin .append,#[y,z],#[t,u]⟩,ty,pos,af,none⟩::rest):=fun a w hS hA=>by
 subst hn;have hown:w.ownsRow 0 el 1 (.slice ad l.length cap) l.length (l.flatMap cN):=hS.get hσ;have hb2:(bs s).size=s.length:=dQ s;obtain ⟨v',w',hrun,ho,hg,_⟩:=Lib.run_append_own_string (P:=P) (w:=w) 0 t u ty el i ht hu hi hz0 hsz hby (.slice ad l.length cap) l.length (l.flatMap cN) hown (bs s) (by unfold maxLen;omega) (by omega) (Nat.zero_le _);have hcells:l.flatMap cN++Lib.strCells (bs s)=(l++s).flatMap cN:=by
  rw [lT,lT,List.map_append,Lib.strCells,show (bs s).data.toList=s by simp [bs]]
 have hlen:l.length+(bs s).size=(l++s).length:=by rw [hb2,List.length_append]
 rw [hcells,hlen] at ho;obtain ⟨ad',cap',rfl⟩:∃ ad' cap',v'=.slice ad' (l++s).length cap':=by
  rcases ho.2 with ⟨hv,h0⟩ | ⟨g,cap,cur,hv,_⟩
  ·exact ⟨none,0,by rw [hv,h0]⟩
  exact ⟨_,_,hv⟩
 refine cB rfl (fun _ h=>by cases h) (w':=w') (v:=.slice ad' (l++s).length cap') ?_ (h ad' cap' _ w' ?_ (hA.put hd _))
 ·simp [execOp,resolve,invoke,builtin,hA.eval hs,hA.eval hz];rw [show l.length+s.length=(l++s).length by simp,hrun];rfl
 refine hS.stepB hM hσ (x:=.list ad cap el 1 cN l) ?_ ho fun b hb=>?_
 ·have:(aK.list ad cap el 1 cN l).foot=(Value.slice ad l.length cap).ownBlock:=by cases ad <;> rfl
  rw [this];exact hg
 rcases hown.2 with ⟨hv,_⟩ | ⟨g,cap2,cur,hv,hbg,hg0,hnc,hcm,hcs,ht'⟩
 ·right;simp only [Value.slice.injEq] at hv;obtain ⟨rfl,hl0,rfl⟩:=hv;have hl:l=[]:=List.eq_nil_of_length_eq_zero hl0;subst hl;obtain ⟨v2,w2,hrun2,ho2,_,_⟩:=Lib.run_append_own_string (P:=P) (w:=w) w.heap.size t u ty el i ht hu hi hz0 hsz hby (.slice none 0 0) 0 [] (World.ownsRow_nil w w.heap.size el 1) (bs s) (by unfold maxLen;omega) (by omega) (Nat.le_refl _);have e:=hrun.symm.trans hrun2;simp only [Result.ok.injEq] at e;obtain ⟨rfl,rfl⟩:=e;rcases ho2.2 with ⟨hv,_⟩ | ⟨g,cap3,cur,hv,hg3,_⟩
  ·simp only [Value.slice.injEq] at hv;obtain ⟨rfl,_,rfl⟩:=hv;cases hb
  simp only [Value.slice.injEq] at hv;obtain ⟨rfl,_,rfl⟩:=hv;simp only [aK.foot,Option.map_some,Option.some.injEq] at hb;omega
 simp only [Value.slice.injEq] at hv;obtain ⟨rfl,_,rfl⟩:=hv;by_cases hroom:l.length+(bs s).size≤cap
 ·have:=Lib.run_append_room_string (P:=P) w t u ty el i ht hu hi hsz g l.length cap cur hg0 (bs s) hroom (by omega);have e:=hrun.symm.trans this;simp only [Result.ok.injEq,Value.slice.injEq] at e;obtain ⟨⟨rfl,_,rfl⟩,_⟩:=e;left;exact hb
 have holds:∀ j u,(l.flatMap cN)[j]?=some u→w.cell? ((⟨g,0,none⟩:Addr).add j)=some u:=hown.cells (g:=g) rfl;have hxl:(l.flatMap cN).length=l.length:=by rw [lT,List.length_map]
 have:=Lib.run_append_grow_string (P:=P) w t u ty el i (.int .u8 0) ht hu hi hz0 ⟨g,0,none⟩ l.length cap (l.flatMap cN) (by rw [hsz];simpa using hxl) holds (bs s) (by omega) (by omega) (by rw [hby];exact growslice_fits (by omega) (by omega));have e:=hrun.symm.trans this;simp only [Result.ok.injEq,Value.slice.injEq] at e;obtain ⟨⟨rfl,_,_⟩,_⟩:=e;right;simp only [aK.foot,Option.map_some,Option.some.injEq] at hb;omega
end
end Pk
namespace Pk
open Go Go.Proofs
def yY {α:Type} (M:Prop) (H:Hp) (W:World) (R:α→Value→Hp→Prop) (tv:Value) (o:α⊕Unit):Ending→World→Prop:=match o with
 | .inl r=>iM M H W (R r)
 | .inr _=>fun e w=>e=.panicked (FX tv)∧dZ M W w
section
variable {P:Program} {f:FuncId} {args:Array Value} {M:Prop} {W:World} {H:Hp} {α:Type}
theorem TE {g:α→Value} {tv:Value} {r:α} (h:Calls P f args W (EW M W g tv (.inl r))):Calls P f args W (bV M W (g r)):=h.mono fun e w h=>by
 obtain ⟨rfl,h⟩:=h;exact ⟨rfl,h⟩
theorem ZC {R:α→Value→Hp→Prop} {tv:Value} {r:α} (h:Calls P f args W (yY M H W R tv (.inl r))):Calls P f args W (iM M H W (R r)):=h
theorem XE {g:α→Value} {tv:Value} {u:Unit} (h:Calls P f args W (EW M W g tv (.inr u))):Calls P f args W (fun e w=>e=.panicked (FX tv)∧dZ M W w):=h
theorem ZD {R:α→Value→Hp→Prop} {tv:Value} {u:Unit} (h:Calls P f args W (yY M H W R tv (.inr u))):Calls P f args W (fun e w=>e=.panicked (FX tv)∧dZ M W w):=h
theorem KL {R:α→Value→Hp→Prop} {tv:Value} {u:Unit} {w:World} (hE:dZ M W w):yY M H W R tv (.inr u) (.panicked (FX tv)) w:=⟨rfl,hE⟩
theorem KM {R:α→Value→Hp→Prop} {tv v:Value} {r:α} {w:World} (h:R r v (grow H W w)) (hE:dZ M W w):yY M H W R tv (.inl r) (.returned v) w:=⟨h,hE⟩
end
section
variable {P:Program} {r:Option Nat} {n:aU} {p:List PanicEntry→aU} {ops:Array Oper} {rest:List Oper} {dst:Option Nat} {ty:TypeId} {pos:String} {af:Array Edge} {x:Fr} {Hs:List Hp} {σ:aP} {L:bM}
theorem HE {y:Operand} {xs:List Operand} {ats:Array TypeId} {f:FuncId} {first cap:List Value} {vs args:List Value} {tv:Value} (hcall:∀ args w,(callFunc f args).run P w=.ok (.enter f args) w) (hf:ev L y=some (.func (.func f) first.toArray cap.toArray)) (hxs:lO L xs=some vs) (hargs:first++vs++cap=args)
  (hc:∀ w (H:Hp),H.le (hp w)→EO Hs H→Calls P f args.toArray w (fun e w'=>e=.panicked (FX tv)∧dZ x.M w w')) (h:TG x Hs σ L (p (FX tv))):OG P r ops n p x Hs σ L (⟨dst,.call ⟨.value y,xs.toArray,ats⟩,ty,pos,af,none⟩::rest):=fun a w hS hA=>by
 subst hargs;refine eX rfl (fun _ h=>by cases h) (eA hA hf hxs hcall) (by simpa using hc w (eL x.w0 x.H0 σ w) hS.vis_le fun i K hi=>hS.at i hi) ?_ ?_ ?_
 ·rintro v w' ⟨e,_⟩;cases e
 ·rintro ch w' ⟨e,hE⟩;cases e;exact h a w' (hS.ext' hE) hA
 rintro w' ⟨e,_⟩;cases e
end
end Pk
namespace Pk
open Go Go.Proofs
def OL (P:Program) (fn:Func) (R:Ending→World→Prop):aU:=fun a w=>Leaves P fn a.tmps R a.defers .returning w
def TF (P:Program) (fn:Func) (R:Ending→World→Prop):List PanicEntry→aU:=fun ch a w=>Leaves P fn a.tmps R a.defers (.panicking ch) w
abbrev FZ (f:FuncId) (cap:List Value):Deferred:={ target:=.fn (.func f) cap.toArray,args:=#[] }
section
variable {P:Program} {f:FuncId} {fn:Func} {c:Code} {nt:Nat} {w:World} {R:Ending→World→Prop}
theorem OM {l:List Value} (hf:P.funcs[f]?=some fn) (hb:fn.body=some c) (hn:fn.ntmps=nt) (hl:Nat.ble l.length nt=true)
  (h:∀ a,aX [] nt a (gP 0 l)→W P none c (fun _ _=>False) (OL P fn R) [] (TF P fn R) a w):Calls P f l.toArray w R:=by
 have hl':l.length≤nt:=by simpa using hl
 have h1:=h { tmps:=l.toArray++Array.replicate (fn.ntmps - l.toArray.size) undef,defers:=[] } ⟨rfl,by simp [hn];omega,fun i v hi=>by
  obtain ⟨_,h2⟩:=nL l 0 i v hi;simp only [Nat.sub_zero] at h2;have hlt:i < l.length:=(List.getElem?_eq_some_iff.1 h2).1;rw [Array.getElem?_append_left (by simpa using hlt)]
  simpa using h2⟩
 refine calls_of_wp_defers hf hb ((wpIn_wide (n:=0)).1 (wpIn_mono h1 ?_));intro z a w hz
 cases z with
 | normal=>exact hz.elim
 | ret=>exact hz
 | panic ch=>exact hz
 | exit id=>obtain ⟨K,hK,_⟩:=hz;simp [AQ] at hK
 | goto l=>exact hz
 | outgrown=>exact hz.elim
theorem KN {M:Prop} {l:List Value} (hf:P.funcs[f]?=some fn) (hb:fn.body=some c) (hn:fn.ntmps=nt) (hl:Nat.ble l.length nt=true) {H:Hp} (hH:H.le (hp w))
  (h:TG ⟨[],nt,M,w,H⟩ [H] [] (gP 0 l) (W P none c (fun _ _=>False) (OL P fn R) [] (TF P fn R))):Calls P f l.toArray w R :=
 OM hf hb hn hl fun a hA=>h a w (St.start M w hH) hA
end
section
variable {P:Program} {n:aU} {p:List PanicEntry→aU} {ops:Array Oper} {rest:List Oper} {ty:TypeId} {pos:String} {af:Array Edge} {x:Fr} {Hs:List Hp} {σ:aP} {L:bM} {D:List Deferred} {k:Nat} {M:Prop} {w0:World} {H0:Hp} {fn:Func} {R:Ending→World→Prop}
theorem df {f:FuncId} {cap:List Value} {y:Operand} (hy:ev L y=some (.func (.func f) #[] cap.toArray)) (h:TG ⟨FZ f cap::D,k,M,w0,H0⟩ Hs σ L (O P none ops n p rest)) :
  OG P none ops n p ⟨D,k,M,w0,H0⟩ Hs σ L (⟨none,.defer ⟨.value y,#[],#[]⟩,ty,pos,af,none⟩::rest):=fun a w hS hA=>by
 show O P none ops n p _ a w;simp only [O,Region.wanted,if_true];refine ⟨fun _ _=>trivial,?_⟩;rw [show (FW none).round=none from rfl,Oper.semAt_none];have hr:(execOp a.eval ⟨none,.defer ⟨.value y,#[],#[]⟩,ty,pos,af,none⟩).run P w=.ok (.defer (FZ f cap)) w:=by
  simp [execOp,resolve,hA.eval hy,Deferred.ofValue]
 rw [hr];show O P none ops n p rest _ w;refine h _ w hS ⟨?_,?_,?_⟩
 ·simp [Act.put,hA.defers]
 ·simpa [Act.put] using hA.size
 intro i v hi;simpa [Act.put] using hA.get i v hi
theorem ZE (h:TG ⟨[],k,M,w0,H0⟩ Hs σ L (Rt P fn R)):TG ⟨[],k,M,w0,H0⟩ Hs σ L (OL P fn R):=fun a w hS hA=>by
 obtain ⟨_,v,h1,h2⟩:=h a w hS hA;unfold OL;rw [hA.defers];exact ⟨v,h1,h2⟩
theorem rtF {f:FuncId} {cap:List Value} (hcall:∀ args w,(callFunc f args).run P w=.ok (.enter f args) w)
  (hc:∀ w,St M w0 H0 Hs σ w→CallsD P f cap.toArray .returning w (fun e u w'=>(∃ v,e=.returned v)∧u=.returning∧St M w0 H0 Hs σ w')) (h:TG ⟨[],k,M,w0,H0⟩ Hs σ L (Rt P fn R)):TG ⟨[FZ f cap],k,M,w0,H0⟩ Hs σ L (OL P fn R):=fun a w hS hA=>by
 unfold OL;rw [hA.defers];refine leaves_cons (f:=f) (args:=cap.toArray) (by simp) (by simp [invoke,hcall]) ((hc w hS).mono ?_);rintro e u w' ⟨⟨v',rfl⟩,rfl,hS'⟩;obtain ⟨_,v,h1,h2⟩:=h { a with defers:=[] } w' hS' ⟨rfl,hA.size,hA.get⟩;exact ⟨v,h1,h2⟩
theorem pnF {f:FuncId} {cap:List Value} {ch:List PanicEntry} {σ':Nat→List Value→aP} (hcall:∀ args w,(callFunc f args).run P w=.ok (.enter f args) w)
  (hc:∀ w,St M w0 H0 Hs σ w→CallsD P f cap.toArray (.panicking ch) w (fun e u w'=>(∃ v,e=.returned v)∧settle u=.returning∧∃ b cs,St M w0 H0 Hs (σ' b cs) w')) (h:∀ b cs,TG ⟨[],k,M,w0,H0⟩ Hs (σ' b cs) L (Rt P fn R)):TG ⟨[FZ f cap],k,M,w0,H0⟩ Hs σ L (TF P fn R ch):=fun a w hS hA=>by
 unfold TF;rw [hA.defers];refine leaves_cons (f:=f) (args:=cap.toArray) (by simp) (by simp [invoke,hcall]) ((hc w hS).mono ?_);rintro e u w' ⟨⟨v',rfl⟩,hu,b,cs,hS'⟩;obtain ⟨_,v,h1,h2⟩:=h b cs { a with defers:=[] } w' hS' ⟨rfl,hA.size,hA.get⟩;simp only [hu];exact ⟨v,h1,h2⟩
end
end Pk
namespace Pk
open Go Go.Proofs
section
variable {κ ι β:Type}
def cA (ent:ι→β→List aK) (az:List ι) (m:List (κ×β)):aP:=((az.zip m).flatMap fun q=>ent q.1 q.2.2).map fun o=>(1000000,o)
structure iG (hv:ι→β→Value) (hs:List (κ×Value)) (az:List ι) (m:List (κ×β)):Prop where
 len:az.length=m.length
 hd:hs=(az.zip m).map fun q=>(q.2.1,hv q.1 q.2.2)
variable {ent:ι→β→List aK} {hv:ι→β→Value} {hs:List (κ×Value)} {az:List ι} {m:List (κ×β)}
theorem iY (ent:ι→β→List aK) (az:List ι) (m:List (κ×β)):(cA ent az m).map Prod.snd=(az.zip m).flatMap fun q=>ent q.1 q.2.2:=by
 simp [cA,List.map_map,Function.comp_def]
theorem iG.nil (hv:ι→β→Value):iG (κ:=κ) hv [] [] []:=⟨rfl,rfl⟩
theorem CS {α γ:Type} {f:α→List γ}:∀ {l:List α} {j:Nat} {x:α},l[j]?=some x→(l.flatMap f).Perm (f x++(l.eraseIdx j).flatMap f)
 | [],_,_,h=>by simp at h
 | y::l,0,x,h=>by simp at h;subst h;simp
 | y::l,j+1,x,h=>by
  have:=CS (f:=f) (l:=l) (j:=j) (x:=x) (by simpa using h);simp only [List.flatMap_cons,List.eraseIdx_cons_succ];refine (this.append_left (f y)).trans ?_;rw [← List.append_assoc,← List.append_assoc];exact List.perm_append_comm.append_right _
theorem kL {α γ:Type}:∀ {l:List α} {m:List γ} {j:Nat} {a:α} {y:γ},l[j]?=some a→m[j]?=some y→(l.zip m)[j]?=some (a,y)
 | [],_,_,_,_,h,_=>by simp at h
 | _::_,[],_,_,_,_,h=>by simp at h
 | b::l,z::m,0,a,y,h,h2=>by simp at h h2;subst h;subst h2;rfl
 | b::l,z::m,j+1,a,y,h,h2=>by
  have:=kL (l:=l) (m:=m) (j:=j) (a:=a) (y:=y) (by simpa using h) (by simpa using h2);simpa using this
theorem vA {α γ:Type}:∀ (l:List α) (m:List γ) (j:Nat),(l.eraseIdx j).zip (m.eraseIdx j)=(l.zip m).eraseIdx j
 | [],_,_=>by simp
 | _::_,[],j=>by cases j <;> simp
 | a::l,y::m,0=>rfl
 | a::l,y::m,j+1=>by simp [vA l m j]
theorem wQ {α γ:Type}:∀ (l:List α) (m:List γ) (j:Nat) (a:α) (y:γ),(l.set j a).zip (m.set j y)=(l.zip m).set j (a,y)
 | [],_,_,_,_=>by simp
 | _::_,[],j,_,_=>by cases j <;> simp
 | a::l,y::m,0,_,_=>rfl
 | a::l,y::m,j+1,a',y'=>by simp [wQ l m j a' y']
theorem oZ {α:Type}:∀ (l:List α) (j:Nat) (a:α),(l.set j a).eraseIdx j=l.eraseIdx j
 | [],_,_=>by simp
 | x::l,0,a=>rfl
 | x::l,j+1,a=>by simp [oZ l j a]
theorem wR {j:Nat} {a:ι} {k:κ} {y:β} (ha:az[j]?=some a) (hm:m[j]?=some (k,y)):((cA ent az m).map Prod.snd).Perm (ent a y++(cA ent (az.eraseIdx j) (m.eraseIdx j)).map Prod.snd):=by
 rw [iY,iY,vA];exact CS (f:=fun q:ι×(κ×β)=>ent q.1 q.2.2) (kL ha hm)
theorem yZ {j:Nat} {a:ι} {k:κ} {y:β} (ha:j < az.length) (hm:j < m.length):((cA ent (az.set j a) (m.set j (k,y))).map Prod.snd).Perm (ent a y++(cA ent (az.eraseIdx j) (m.eraseIdx j)).map Prod.snd):=by
 have:=wR (ent:=ent) (az:=az.set j a) (m:=m.set j (k,y)) (j:=j) (a:=a) (k:=k) (y:=y) (by simp [ha]) (by simp [hm])
 rwa [oZ,oZ] at this
theorem vB {a:ι} {k:κ} {y:β} (h:az.length=m.length):(cA ent (az++[a]) (m++[(k,y)])).map Prod.snd=(cA ent az m).map Prod.snd++ent a y:=by
 rw [iY,iY,List.zip_append h];simp
variable [DecidableEq κ]
theorem fV:∀ {m:List (κ×β)} {k:κ} (y:β),lkp m k=none→put m k y=m++[(k,y)]
 | [],_,_,_=>rfl
 | (q,z)::m,k,y,h=>by
  by_cases e:k=q
  ·subst e;simp [lkp] at h
  simp only [lkp,if_neg e] at h;simp [put,if_neg e,fV y h]
theorem iG.lkp (h:iG hv hs az m) (k:κ):(lkp m k=none∧Pk.lkp hs k=none)∨∃ j a y,az[j]?=some a∧m[j]?=some (k,y)∧Pk.lkp m k=some y∧Pk.lkp hs k=some (hv a y)∧(∀ v,put hs k v=hs.set j (k,v))∧∀ y',put m k y'=m.set j (k,y'):=by
 obtain ⟨hl,rfl⟩:=h
 induction m generalizing az with
 | nil =>
  cases az with
  | nil=>exact .inl ⟨rfl,rfl⟩
  | cons a az=>simp at hl
 | cons q m ih =>
  obtain ⟨q,z⟩:=q
  cases az with
  | nil=>simp at hl
  | cons a az =>
   by_cases e:k=q
   ·subst e;exact .inr ⟨0,a,z,rfl,rfl,by simp [Pk.lkp],by simp [Pk.lkp],fun v=>by simp [put],fun v=>by simp [put]⟩
   rcases ih (az:=az) (by simpa using hl) with ⟨h1,h2⟩ | ⟨j,b,y,h1,h2,h3,h4,h5,h6⟩
   ·exact .inl ⟨by simp [Pk.lkp,e,h1],by simpa [Pk.lkp,e] using h2⟩
   exact .inr ⟨j+1,b,y,by simpa using h1,by simpa using h2,by simp [Pk.lkp,e,h3],by simpa [Pk.lkp,e] using h4,fun v=>by simpa [put,e] using h5 v,fun y'=>by simp [put,e,h6 y']⟩
omit [DecidableEq κ] in
theorem iG.set (h:iG hv hs az m) (j:Nat) (k:κ) (a:ι) (y:β):iG hv (hs.set j (k,hv a y)) (az.set j a) (m.set j (k,y)):=⟨by simp [h.len],by
 rw [h.hd,wQ,List.map_set]⟩
omit [DecidableEq κ] in
theorem iG.snoc (h:iG hv hs az m) (k:κ) (a:ι) (y:β):iG hv (hs++[(k,hv a y)]) (az++[a]) (m++[(k,y)]):=⟨by simp [h.len],by
 rw [h.hd,List.zip_append h.len];simp⟩
end
section
variable {x:Fr} {Hs:List Hp} {σ:aP} {L:bM} {N:aU}
theorem TG.lie {A B:aP} {F:List aK} (hp:(A.map Prod.snd).Perm (F++B.map Prod.snd)) {Φ:Hp→Prop}
  (hΦ:∀ (K:Hp) (w:World),(∀ z∈F,z.holds w∧∀ c,z.foot=some c→∀ o,w.heap[c]?=some o→K c=some o)→Φ K) (h:∀ K,Φ K→TG x (K::Hs) B L N):TG x Hs A L N:=by
 intro a w hS hA;have hpw:=(hp.pairwise_iff (R:=apart) (fun h=>dI h)).1 (dG.1 hS.apart);rw [List.pairwise_append] at hpw;obtain ⟨_,hB1,hFB⟩:=hpw;have hmem:∀ z,z∈F++B.map Prod.snd→∃ i,(i,z)∈A:=fun z hz=>wO (hp.symm.subset hz);have hS':St x.M x.w0 x.H0 Hs B w:=hS.re (fun i z hz=>.inl (hmem z (List.mem_append_right _ (List.mem_map.2 ⟨_,hz,rfl⟩)))) (dG.2 hB1);have hS2:St x.M x.w0 x.H0 (eL x.w0 x.H0 B w::Hs) B w:=by
  refine ⟨hS'.h0,hS'.ext,fun H hH=>?_,hS'.own,hS'.apart⟩;rcases List.mem_cons.1 hH with rfl | hH
  ·exact Hp.le.refl _
  exact hS'.le H hH
 refine h _ (hΦ _ w fun z hz=>?_) a w hS2 hA;obtain ⟨i,hi⟩:=hmem z (List.mem_append_left _ hz);have ho:=hS.own i z hi;refine ⟨ho.1,fun c hc o hco=>St.seen (ho.2 c hc) ?_ hco⟩;rintro ⟨i',u,hu,hf⟩;exact hFB z hz u (List.mem_map.2 ⟨_,hu,rfl⟩) c hc hf
theorem TG.dropF {A F:aP} (h:TG x Hs A L N):TG x Hs (A++F) L N:=fun a w hS hA=>h a w (hS.re (fun i z hz=>.inl ⟨i,List.mem_append_left _ hz⟩) (dG.2 (by
 have:=dG.1 hS.apart;rw [List.map_append,List.pairwise_append] at this
 exact this.1))) hA
end
section
variable {κ α:Type} {ke:κ→Value} {el:TypeId} {size:Nat} {enc:α→List Value}
def HF (a:kD) (l:List α):Value:=.slice a.1 l.length a.2
def mW (el:TypeId) (size:Nat) (enc:α→List Value) (a:kD) (l:List α):List aK:=[.list a.1 a.2 el size enc l]
def Mr (ke:κ→Value) (enc:α→List Value) (size:Nat) (H:Hp) (v:Value) (m:List (κ×List α)):Prop :=
 ∃ (hs:List (κ×Value)) (az:List kD),Mp ke (fun v=>v) H v hs∧iG HF hs az m∧∀ (j:Nat) (a:kD) (k:κ) (l:List α),az[j]?=some a→m[j]?=some (k,l)→Sl (aS enc) size H a.1 a.2 l
variable {x:Fr} {Hs:List Hp} {L:bM} {N:aU} {hs:List (κ×Value)} {az:List kD} {m:List (κ×List α)}
theorem TG.lieR (A:aP) (t:Nat) {b:Nat} (hF:iG HF hs az m) (ht:bJ A t=some (aK.map' ke (fun v=>v) b hs)) (he:∀ x,(enc x).length=size)
  (h:∀ K,Mr ke enc size K (.map (some b)) m→TG x (K::Hs) (cD A t) L N):TG x Hs (A++cA (mW el size enc) az m) L N:=by
 refine TG.lie (F:=aK.map' ke (fun v=>v) b hs::(az.zip m).flatMap fun q=>mW el size enc q.1 q.2.2) (Φ:=fun K=>Mr ke enc size K (.map (some b)) m) ?_ (fun K w hK=>?_) h
 ·rw [List.map_append,iY];refine ((dT ht).symm.append_right _).trans ?_;rw [List.cons_append,List.cons_append];exact List.perm_append_comm.cons _
 have h0:=hK _ List.mem_cons_self;refine ⟨hs,az,.inl ⟨b,rfl,h0.2 b rfl _ h0.1⟩,hF,fun j a k l ha hm=>?_⟩;have h1:=hK (.list a.1 a.2 el size enc l) (List.mem_cons_of_mem _ (List.mem_flatMap.2 ⟨(a,(k,l)),List.mem_of_getElem? (kL ha hm),by simp [mW]⟩));exact fB he h1.1 (fun c hc o ho=>h1.2 c hc o ho)
variable [DecidableEq κ]
theorem Mr.look {H:Hp} {v:Value} (h:Mr ke enc size H v m) (k:κ):∃ hs ad cap,Mp ke (fun v=>v) H v hs∧(Pk.lkp hs k).getD (.slice none 0 0)=.slice ad ((Pk.lkp m k).getD []).length cap∧Sl (aS enc) size H ad cap ((Pk.lkp m k).getD []):=by
 obtain ⟨hs,az,h1,h2,h3⟩:=h;rcases h2.lkp k with ⟨e1,e2⟩ | ⟨j,a,y,ha,hm,e1,e2,_⟩
 ·exact ⟨hs,none,0,h1,by simp [e1,e2],by rw [e1];exact Sl.nil _ _ _ _ _ (by decide)⟩
 exact ⟨hs,a.1,a.2,h1,by simp [e1,e2,HF],by rw [e1];exact h3 j a k y ha hm⟩
section
variable {P:Program} {r:Option Nat} {n:aU} {p:List PanicEntry→aU} {ops:Array Oper} {rest:List Oper} {kd:TypeDesc} [sJ ke kd]
theorem EX {A:aP} {t:Nat} {o:aK} (o':aK) (h:bJ A t=some o):((cE A t o').map Prod.snd).Perm (o'::(cD A t).map Prod.snd):=by
 induction A with
 | nil=>simp [bJ] at h
 | cons q A ih =>
  obtain ⟨i,z⟩:=q;by_cases e:i=t
  ·subst e;simp [cE,cD,dN]
  simp only [bJ,cV e,cond_false] at h;simp only [cE,cD,cV e,cond_false,List.map_cons];exact ((ih h).cons z).trans (List.Perm.swap o' z _)
theorem mgA (A:aP) (tg:Nat) (enc:α→List Value) {b:Nat} (key:κ) (x1:α) {t t2 kt et el2:TypeId} {y i z u i':Operand} {v:Value} {zs:List Value} {bytes d1 d2 d3 d4:Nat} {ty1 ty2 ty3 ty4 ty5:TypeId} {pos1 pos2 pos3 pos4 pos5:String} {af1 af2 af3 af4 af5:Array Edge}
  (hu:P.underlying t=some (.map kt et)) (hk:P.underlying kt=some kd) (hz:∀ w,(zeroValue et).run P w=.ok (.slice none 0 0) w) (he:cW P t2 el2 zs size bytes)
  (hd1:Nat.blt d1 x.k=true) (hd2:Nat.blt d2 x.k=true) (hd3:Nat.blt d3 x.k=true) (hd4:Nat.blt d4 x.k=true)
  (hy:ev L y=some (.map (some b))) (hi:ev L i=some (ke key)) (hx:ev L z=some v) (hux:ev L u=some (.map (some b))) (hi':ev L i'=some (ke key))
  (hn:eS d1 z=false∧(eS d1 u=false∧eS d2 u=false∧eS d3 u=false∧eS d4 u=false)∧(eS d1 i'=false∧eS d2 i'=false∧eS d3 i'=false∧eS d4 i'=false)∧Nat.beq d2 d1=false∧Nat.beq d3 d1=false∧Nat.beq d3 d2=false)
  (hv:bF v=enc x1) (hcl:∀ x,(enc x).length=size) (h1:(enc x1).all (·.oneCell')=true) (h3:Nat.ble size 16777216=true) (hby:Nat.ble bytes 131072=true)
  (hF:iG HF hs az m) (hσ:bJ A tg=some (aK.map' ke (fun v=>v) b hs)) (h0:((lkp m key).getD []).length+1≤1073741824)
  (h:∀ hs' az' u1 u2 u3 u4,iG HF hs' az' (put m key ((lkp m key).getD []++[x1]))→OG P r ops n p x Hs (cE A tg (aK.map' ke (fun v=>v) b hs')++cA (mW el2 size enc) az' (put m key ((lkp m key).getD []++[x1]))) ((d4,u4)::(d3,u3)::(d2,u2)::(d1,u1)::L) rest) :
  OG P r ops n p x Hs (A++cA (mW el2 size enc) az m) L (⟨some d1,.lookup t y i false,ty1,pos1,af1,none⟩::⟨some d2,.move z,ty2,pos2,af2,none⟩::⟨some d3,.buildSlice t2 1 #[(0,.tmp d2)],ty3,pos3,af3,none⟩::⟨some d4,.call ⟨.builtin .append,#[.tmp d1,.tmp d3],#[t2,t2]⟩,ty4,pos4,af4,none⟩::⟨none,.mapUpdate t u i' (.tmp d4),ty5,pos5,af5,none⟩::rest):=by
 obtain ⟨n1,⟨n2,n3,n4,n5⟩,⟨n6,n7,n8,n9⟩,nR,n0,nS⟩:=hn;have hg:bJ (A++cA (mW el2 size enc) az m) tg=some (aK.map' ke (fun v=>v) b hs):=by
  clear h hF h0
  induction A with
  | nil=>simp [bJ] at hσ
  | cons q A ih =>
   obtain ⟨j,o⟩:=q;by_cases e:j=tg
   ·subst e;simpa [bJ,dN] using hσ
   simp only [List.cons_append,bJ,cV e,cond_false] at hσ ⊢;exact ih hσ
 refine YR (ke:=ke) (enc:=fun v:Value=>v) key (z0:=.slice none 0 0) hu hk hz hd1 hy hi rfl (mO tg hg) ?_;have hx':∀ u1,ev ((d1,u1)::L) z=some v:=fun u1=>by rw [eZ n1];exact hx
 have fin:∀ (ad:Option Addr) (cap:Nat) (l:List α) (rst:aP) (u1 u2 u3:Value) (hs0:List (κ×Value)),bJ A tg=some (aK.map' ke (fun v=>v) b hs)→(∀ ad' cap',∃ az',iG HF (put hs key (HF (ad',cap') (l++[x1]))) az' (put m key (l++[x1]))∧((cA (mW el2 size enc) az' (put m key (l++[x1]))).map Prod.snd).Perm (.list ad' cap' el2 size enc (l++[x1])::rst.map Prod.snd))→l=(lkp m key).getD [] →
   ∀ ad' cap',OG P r ops n p x Hs ((0,.list ad' cap' el2 size enc (l++[x1]))::(1,aK.map' ke (fun v=>v) b hs)::(cD A tg++rst)) ((d4,.slice ad' (l++[x1]).length cap')::(d3,u3)::(d2,u2)::(d1,u1)::L) (⟨none,.mapUpdate t u i' (.tmp d4),ty5,pos5,af5,none⟩::rest):=by
  intro ad cap l rst u1 u2 u3 hs0 hσ hE hl ad' cap';refine KD (ke:=ke) (enc:=fun v:Value=>v) 1 key (.slice ad' (l++[x1]).length cap') hu hk (by rw [eZ n5,eZ n4,eZ n3,eZ n2];exact hux) (by rw [eZ n9,eZ n8,eZ n7,eZ n6];exact hi') (by simp [ev,lk]) rfl ?_;obtain ⟨az',h1,h2⟩:=hE ad' cap';subst hl;refine TG.permO ?_ (h _ az' u1 u2 u3 _ h1);rw [List.map_append];refine (List.Perm.append (EX _ hσ) h2).trans ?_;simp only [cE,dN,cond_true,List.map_cons,List.map_append,show Nat.beq 0 1=false from rfl,cond_false];rw [List.cons_append];refine (List.Perm.cons _ List.perm_middle).trans ?_;exact List.Perm.swap _ _ _
 have evt:∀ (u1 u2:Value),ev ((d2,u2)::(d1,u1)::L) (.tmp d1)=some u1:=fun u1 u2=>by simp [ev,lk,nR]
 rcases hF.lkp key with ⟨e1,e2⟩ | ⟨j,a,l,ha,hm,e1,e2,e3,e4⟩
 ·rw [e1,Option.getD_none] at h0;refine TG.nilRow 0 el2 size ?_;refine mv hd2 (hx' _) ?_;rw [e2,Option.getD_none];refine yN 0 enc (l:=[]) x1 he hd4 hd3 (evt _ _) (by simpa [eS] using n0) (by simp [bJ]) rfl (by simp [ev,lk]) hv (hcl _) h1 h3 hby h0 fun ad' cap' u3=>?_;refine TG.permO (σ':=(0,.list ad' cap' el2 size enc ([]++[x1]))::(1,aK.map' ke (fun v=>v) b hs)::(cD A tg++cA (mW el2 size enc) az m)) ?_ (fin none 0 [] _ _ _ _ hs hσ (fun ad' cap'=>⟨az++[(ad',cap')],?_,?_⟩) (by rw [e1];rfl) ad' cap')
  ·simp only [cE,dN,cond_true,List.map_cons,List.map_append];refine List.Perm.cons _ ?_;exact (dT hσ).append_right _
  ·rw [fV _ e1,fV _ e2];exact hF.snoc _ _ _
  rw [fV _ e1,vB hF.len];exact List.perm_append_singleton _ _
 rw [e1,Option.getD_some] at h0;refine TG.permO (σ':=(0,.list a.1 a.2 el2 size enc l)::(1,aK.map' ke (fun v=>v) b hs)::(cD A tg++cA (mW el2 size enc) (az.eraseIdx j) (m.eraseIdx j))) ?_ ?_
 ·simp only [List.map_cons,List.map_append];refine List.Perm.trans ?_ ((dT hσ).append (wR (ent:=mW el2 size enc) ha hm).symm);simp only [mW,List.cons_append,List.nil_append];refine List.Perm.trans (List.Perm.swap _ _ _) (List.Perm.cons _ ?_);exact List.perm_middle.symm
 refine mv hd2 (hx' _) ?_;rw [e2,Option.getD_some];refine yN 0 enc (l:=l) x1 he hd4 hd3 (evt _ _) (by simpa [eS] using n0) rfl rfl (by simp [ev,lk]) hv (hcl _) h1 h3 hby h0 fun ad' cap' u3=>?_;refine fin a.1 a.2 l _ _ _ _ hs hσ (fun ad' cap'=>⟨az.set j (ad',cap'),?_,?_⟩) (by rw [e1];rfl) ad' cap'
 ·rw [e3,e4];exact hF.set _ _ _ _
 rw [e4];exact yZ (aW ha) (aW hm)
end
end
section
variable {P:Program} {r:Option Nat} {n:aU} {p:List PanicEntry→aU} {ops:Array Oper} {rest:List Oper} {d:Nat} {ty:TypeId} {pos:String} {af:Array Edge} {x:Fr} {Hs:List Hp} {σ:aP} {L:bM}
theorem XF {κ:Type} {ke:κ→Value} {kd:TypeDesc} [DecidableEq κ] [sJ ke kd] (s:κ) {z0 v':Value} {t kt et:TypeId} {y i:Operand} {v:Value} {m:List (κ×Value)} (hu:P.underlying t=some (.map kt et)) (hk:P.underlying kt=some kd) (hz:∀ w,(zeroValue et).run P w=.ok z0 w) (hd:Nat.blt d x.k=true) (hy:ev L y=some v) (hi:ev L i=some (ke s)) (hm:Ms x Hs σ ke (fun v=>v) v m) (e:(lkp m s).getD z0=v')
  (h:OG P r ops n p x Hs σ ((d,v')::L) rest):OG P r ops n p x Hs σ L (⟨some d,.lookup t y i false,ty,pos,af,none⟩::rest):=by
 subst e;exact YR (enc:=fun v=>v) s hu hk hz hd hy hi rfl hm h
end
theorem HG {size off:Nat} {cs cs1 c:List Value} {css:List (List Value)} {j:Nat} (hcss:∀ c∈css,c.length=size) (hj:css[j]?=some c) (hl:off+cs.length≤size) (hs:mA c off cs=cs1) (h1:cs1.length=size):mA css.flatten (j*size+off) cs=(css.set j cs1).flatten:=by
 obtain ⟨l',rfl⟩:∃ l':List {c:List Value // c.length=size},css=l'.map Subtype.val:=⟨css.attach.map fun c=>⟨c.1,hcss _ c.2⟩,by simp⟩;rw [List.getElem?_map] at hj;obtain ⟨c',hc',rfl⟩:=Option.map_eq_some_iff.1 hj;have:=sI (enc:=Subtype.val) (fun x:{c:List Value // c.length=size}=>x.2) ⟨cs1,h1⟩ off cs l' j c' hc' hl hs;rw [List.flatMap_def,List.flatMap_def,List.map_set] at this;exact this
theorem Rows.set {α:Type} {R:Hp→List Value→α→Prop} {size:Nat} {K:Hp} {cs1:List Value} {y:α} (h1:cs1.length=size) (h2:cs1.all (·.oneCell')=true) (h3:R K cs1 y):∀ {css:List (List Value)} {l:List α} (j:Nat),Rows R size K css l→Rows R size K (css.set j cs1) (l.set j y)
 | [],[],_,_=>trivial
 | cs::css,x::l,0,h=>⟨⟨h1,h2,h3⟩,h.2⟩
 | cs::css,x::l,j+1,h=>⟨h.1,Rows.set h1 h2 h3 j h.2⟩
 | [],_::_,_,h=>h.elim
 | _::_,[],_,h=>h.elim
theorem Rows.all {α:Type} {R:Hp→List Value→α→Prop} {size:Nat} {K:Hp}:∀ {css:List (List Value)} {l:List α},Rows R size K css l→∀ c∈css,c.length=size
 | [],[],_,c,h=>by simp at h
 | cs::css,x::l,h,c,hc=>by
  rcases List.mem_cons.1 hc with rfl | hc
  ·exact h.1.1
  exact Rows.all h.2 c hc
 | [],_::_,h,_,_=>h.elim
 | _::_,[],h,_,_=>h.elim
section
variable {P:Program} {r:Option Nat} {n:aU} {p:List PanicEntry→aU} {ops:Array Oper} {rest:List Oper} {d:Nat} {ty:TypeId} {pos:String} {af:Array Edge} {x:Fr} {Hs:List Hp} {σ:aP} {L:bM}
theorem stR (tg:Nat) {α:Type} {R:Hp→List Value→α→Prop} {K:Hp} (y:α) (cs1:List Value) {l:List α} {css:List (List Value)} {c0:List Value} {t t0:TypeId} {u z:Operand} {v:Value} {cs:List Value} {q:Addr} {cap size j off s:Nat} (hs:∀ w,(Go.sizeOf t).run P w=.ok s w) (hu:ev L u=some (.pointer (some (q.add (j*size+off))))) (hz:ev L z=some v) (hσ:bJ σ tg=some (.rows (some q) cap t0 size css l)) (hR:Rows R size K css l) (hj:css[j]?=some c0) (hv:bF v=cs) (hcl:cs.length=s) (h1:cs.all (·.oneCell')=true) (hfit:Nat.ble (off+s) size=true) (hsp:mA c0 off cs=cs1) (hc1:cs1.length=size)
  (h:OG P r ops n p x Hs (cE σ tg (.rows (some q) cap t0 size (css.set j cs1) (l.set j y))) L rest):OG P r ops n p x Hs σ L (⟨none,.store t u z,ty,pos,af,none⟩::rest):=fun c w hS hA=>by
 have hfit':off+s≤size:=by simpa using hfit
 have hlt:=aW hj;have hle:(j+1)*size≤css.length*size:=Nat.mul_le_mul_right _ hlt;rw [Nat.add_mul] at hle;have hfl:css.flatten.length=css.length*size:=by
  have:∀ (l:List (List Value)),(∀ c∈l,c.length=size)→l.flatten.length=l.length*size:=by
   intro l hl
   induction l with
   | nil=>simp
   | cons a l ih=>simp [ih (fun c hc=>hl c (List.mem_cons_of_mem _ hc)),hl a List.mem_cons_self,Nat.add_mul,Nat.add_comm]
  exact this css hR.all
 have hsf:=HG hR.all hj (by omega) hsp hc1;refine yF tg hA hS hu hz hs hσ hv hcl h1 (by rw [hfl];omega) fun w' hS c hA=>?_;rw [hsf] at hS;refine h c w' ?_ hA;have e:(l.set j y).length=l.length:=by simp
 unfold aK.rows;rw [e];exact hS
end
end Pk
namespace Pk
open Go Go.Proofs
section
variable {κ ι β:Type} {ent:ι→β→List aK} {hv:ι→β→Value} {hs:List (κ×Value)} {az:List ι} {m:List (κ×β)}
variable {x:Fr} {Hs:List Hp} {L:bM} {N:aU}
theorem iG.hlen (h:iG hv hs az m):hs.length=m.length:=by rw [h.hd];simp [h.len]
theorem iG.at (h:iG hv hs az m) {j:Nat} {q:κ×β} (hq:m[j]?=some q):∃ a,az[j]?=some a∧hs[j]?=some (q.1,hv a q.2):=by
 have hj:j < az.length:=by rw [h.len];exact aW hq
 refine ⟨az[j],List.getElem?_eq_getElem hj,?_⟩;rw [h.hd,List.getElem?_map,kL (List.getElem?_eq_getElem hj) hq];rfl
theorem iG.upd (h:iG hv hs az m) {j:Nat} {a a':ι} {k:κ} {y y':β} (ha:az[j]?=some a) (hm:m[j]?=some (k,y)) (e:hv a' y'=hv a y):iG hv hs (az.set j a') (m.set j (k,y')):=by
 have h1:=h.set j k a' y';obtain ⟨b,hb,hh⟩:=h.at hm;rw [ha] at hb;cases hb;rw [e] at h1;have e2:hs.set j (k,hv a y)=hs:=by
  apply List.ext_getElem?;intro i;rw [List.getElem?_set]
  split
  ·rename_i hi
   subst hi;rw [if_pos (aW hh),hh]
  rfl
 rwa [e2] at h1
theorem pm1 {α:Type} (E A F B:List α):(E++(A++(F++B))).Perm (A++((E++F)++B)):=by
 rw [List.append_assoc];exact List.perm_append_comm_assoc _ _ _
theorem pm2 {α:Type} (E A F B:List α):(A++((E++F)++B)).Perm ((E++A)++(F++B)):=by
 rw [List.append_assoc,List.append_assoc];exact List.perm_append_comm_assoc _ _ _
theorem pm3 {α:Type} (E A F B:List α):(A++((F++E)++B)).Perm ((E++A)++(F++B)):=by
 rw [List.append_assoc,List.append_assoc];exact ((List.perm_append_comm_assoc _ _ _).append_left _).trans (List.perm_append_comm_assoc _ _ _)
theorem TG.famF (A:aP) {B:aP} (ts:List Nat) {j:Nat} {a:ι} {k:κ} {y:β} (ha:az[j]?=some a) (hm:m[j]?=some (k,y)) (hl:ts.length=(ent a y).length)
  (h:TG x Hs (ts.zip (ent a y)++(A++(cA ent (az.eraseIdx j) (m.eraseIdx j)++B))) L N):TG x Hs (A++(cA ent az m++B)) L N:=by
 refine TG.permO ?_ h;simp only [List.map_append];rw [show (ts.zip (ent a y)).map Prod.snd=ent a y from List.map_snd_zip (by omega)];exact (pm1 _ _ _ _).trans (List.Perm.append_left _ ((wR (ent:=ent) ha hm).symm.append_right _))
theorem TG.famB (A:aP) {A' B:aP} {j:Nat} {a':ι} {k:κ} {y':β} (hA:(A.map Prod.snd).Perm (ent a' y'++A'.map Prod.snd)) (ha:j < az.length) (hm:j < m.length)
  (h:TG x Hs (A'++(cA ent (az.set j a') (m.set j (k,y'))++B)) L N):TG x Hs (A++(cA ent (az.eraseIdx j) (m.eraseIdx j)++B)) L N:=by
 refine TG.permO ?_ h;simp only [List.map_append];exact (List.Perm.append_left _ ((yZ (ent:=ent) (a:=a') (k:=k) (y:=y') ha hm).append_right _)).trans ((pm2 _ _ _ _).trans (hA.symm.append_right _))
theorem TG.famI (A:aP) {A' B:aP} (ns:List aK) {a:ι} {k:κ} {y:β} (hA:(ns++A.map Prod.snd).Perm (ent a y++A'.map Prod.snd)) (hn:∀ z∈ns,∃ el size,z=.row none 0 el size 0 []) (hl:az.length=m.length)
  (h:TG x Hs (A'++(cA ent (az++[a]) (m++[(k,y)])++B)) L N):TG x Hs (A++(cA ent az m++B)) L N:=fun c w hS hA'=>by
 refine h c w (hS.perm (ns:=ns) ?_ hn) hA';show List.Perm (List.map Prod.snd _) (ns++List.map Prod.snd _);simp only [List.map_append];rw [vB hl,← List.append_assoc ns];exact (pm3 _ _ _ _).trans (hA.symm.append_right _)
end
theorem HH {A:aP} {t:Nat} {o:aK} {os:List aK} {B:aP} (h:bJ A t=some o) (h2:((cD A t).map Prod.snd).Perm (os++B.map Prod.snd)):(A.map Prod.snd).Perm (o::os++B.map Prod.snd):=(dT h).symm.trans (h2.cons o)
theorem ZF {A B:aP} (h:A=B):(A.map Prod.snd).Perm ([]++B.map Prod.snd):=by subst h;exact List.Perm.refl _
section
variable {S ρ:Type}
def foldK (step:S→Nat→Option (S⊕ρ)) (Kf:S→Option ρ):List Nat→S→Option ρ
 | [],s=>Kf s
 | i::l,s=>match step s i with
  | some (.inl s')=>foldK step Kf l s'
  | some (.inr z)=>some z
  | none=>none
open Classical in
noncomputable def wS (n:Nat) (step:S→Nat→Option (S⊕ρ)) (Kf:S→Option ρ) (s0:S):Option ρ :=
 if h:∃ z,∀ l:List Nat,l.Perm (List.range n)→foldK step Kf l s0=some z then some h.choose else none
variable {n:Nat} {step:S→Nat→Option (S⊕ρ)} {Kf:S→Option ρ} {s0:S} {z:ρ}
theorem EY (h:wS n step Kf s0=some z):∀ l:List Nat,l.Perm (List.range n)→foldK step Kf l s0=some z:=by
 unfold wS at h
 split at h
 ·rename_i h'
  cases h;exact h'.choose_spec
 cases h
structure rC (n:Nat) (step:S→Nat→Option (S⊕ρ)) (Kf:S→Option ρ) (z:ρ) (seen:List Nat) (s:S):Prop where
 nd:seen.Nodup
 lt:∀ i∈seen,i < n
 all:∀ rest,(seen++rest).Perm (List.range n)→foldK step Kf rest s=some z
theorem rC.start (h:wS n step Kf s0=some z):rC n step Kf z [] s0:=⟨List.nodup_nil,by simp,fun rest hr=>EY h rest (by simpa using hr)⟩
theorem sQ {l:List Nat} (hn:l.Nodup) (h:∀ i,i∈l↔i < n):l.Perm (List.range n):=by
 rw [List.perm_ext_iff_of_nodup hn List.nodup_range];intro i;rw [h,List.mem_range]
variable {seen:List Nat} {s:S}
theorem rC.out (g:rC n step Kf z seen s) (h:∀ i,i < n→i∈seen):Kf s=some z:=by
 have:=g.all [] (by rw [List.append_nil];exact sQ g.nd fun i=>⟨g.lt i,h i⟩);simpa [foldK] using this
theorem rC.stp (g:rC n step Kf z seen s) {i:Nat} (hi:i < n) (hs:i∉seen):∃ y,step s i=some y∧(∀ s',y=.inl s'→rC n step Kf z (seen++[i]) s')∧(∀ v,y=.inr v→some v=some z):=by
 have nd1:(seen++[i]).Nodup:=by
  rw [List.nodup_append];refine ⟨g.nd,by simp,?_⟩;intro a ha b hb;simp at hb;subst hb;rintro rfl;exact hs ha
 have lt1:∀ j∈seen++[i],j < n:=fun j hj=>by
  rcases List.mem_append.1 hj with h | h
  ·exact g.lt j h
  simp at h;omega
 have h0:=g.all (i::(List.range n).filter fun j=>!(seen++[i]).contains j) (by
  rw [List.append_cons];refine sQ ?_ fun j=>?_
  ·rw [List.nodup_append];refine ⟨nd1,List.nodup_range.filter _,?_⟩;intro a ha b hb;rintro rfl;simp only [List.mem_filter] at hb;have:=hb.2;simp only [Bool.not_eq_true'] at this;rw [List.contains_iff_mem.2 ha] at this;cases this
  rw [List.mem_append,List.mem_filter,List.mem_range];constructor
  ·rintro (h | h)
   ·exact lt1 j h
   exact h.1
  intro h;by_cases hj:j∈seen++[i]
  ·exact .inl hj
  refine .inr ⟨h,?_⟩;simp only [Bool.not_eq_true'];rw [Bool.eq_false_iff];intro hc
  exact hj (List.contains_iff_mem.1 hc))
 have key:∀ o,step s i=o→∃ y,o=some y∧(∀ s',y=.inl s'→rC n step Kf z (seen++[i]) s')∧(∀ v,y=.inr v→some v=some z):=by
  intro o ho;rcases o with _ | (s' | v)
  ·simp only [foldK,ho] at h0;cases h0
  ·refine ⟨_,rfl,?_,fun v h=>(by cases h)⟩;rintro s'' h;cases h;refine ⟨nd1,lt1,fun rest hr=>?_⟩;have:=g.all (i::rest) (by rwa [List.append_assoc] at hr);simpa only [foldK,ho] using this
  refine ⟨_,rfl,fun s' h=>(by cases h),?_⟩;rintro v' h;cases h;simpa only [foldK,ho] using h0
 exact key _ rfl
end
def nI (b n:Nat) (seen:List Nat):Obj:=.mapIter (some b) n seen.toArray n
section
variable {P:Program} {r0:Option Nat} {nn rt:aU} {e:List (Nat×aU)} {p:List PanicEntry→aU} {ops:Array Oper} {rest:List Oper} {d:Nat} {ty:TypeId} {pos:String} {af:Array Edge} {x:Fr} {Hs:List Hp} {σ:aP} {L:bM}
theorem rgl {c:Code} {S ρ:Type} {n:Nat} {step:S→Nat→Option (S⊕ρ)} {Kf:S→Option ρ} {s0:S} {z:ρ} (hr:wS n step Kf s0=some z) (I:S→List Nat→aU) (h0:∀ a w,St x.M x.w0 x.H0 Hs σ w→aX x.D x.k a L→I s0 [] a w)
  (hI:∀ s seen,rC n step Kf z seen s→∀ a w,I s seen a w→W P r0 c (fun a w=>∃ s' i,i∉seen∧i < n∧rC n step Kf z (seen++[i]) s'∧I s' (seen++[i]) a w) rt e p a w):TG x Hs σ L (W P r0 (.loop c) nn rt e p):=fun a w hS hA=>by
 refine GE (j:=((List.range n).filter fun i=>!([]:List Nat).contains i).length) (fun j a w=>∃ s seen,rC n step Kf z seen s∧((List.range n).filter fun i=>!seen.contains i).length=j∧I s seen a w) ⟨s0,[],rC.start hr,rfl,h0 a w hS hA⟩ ?_;rintro j a w ⟨s,seen,hg,rfl,hi⟩;refine rW ?_ (fun _ _ h=>h) (fun _ K _ _ hK h=>⟨K,hK,h⟩) (fun _ _ _ h=>h) (hI s seen hg a w hi);rintro a w ⟨s',i,hni,hlt,hg',hi'⟩;refine ⟨_,?_,s',seen++[i],hg',rfl,hi'⟩;refine filter_lt (fun i=>!seen.contains i) (fun j=>!(seen++[i]).contains j) (fun q hq=>?_) i (by simpa using hni) (by simp) _ (List.mem_range.2 hlt);simp only [Bool.not_eq_true',Bool.eq_false_iff,ne_eq,List.contains_iff_mem,List.mem_append] at hq ⊢;exact fun h=>hq (.inl h)
variable {κ:Type} {ke:κ→Value} {hs:List (κ×Value)} {b n:Nat}
theorem Ms.obj {w:World} (hm:Ms x Hs σ ke (fun v:Value=>v) (.map (some b)) hs) (hS:St x.M x.w0 x.H0 Hs σ w):w.heap[b]?=some (.map (dR ke (fun v=>v) hs 0).toArray hs.length):=by
 rcases hm w hS with ⟨b',e,h⟩ | ⟨e,_⟩
 ·cases e;exact h
 cases e
theorem sR {α:Type} {enc:α→Value} {e:MapEntry}:∀ {m:List (κ×α)} {i:Nat},e∈dR ke enc m i→∃ j q,m[j]?=some q∧e={ key:=ke q.1,val:=enc q.2,born:=i+j }
 | [],_,h=>by simp [dR] at h
 | (k,v)::m,i,h=>by
  simp only [dR,List.mem_cons] at h;rcases h with rfl | h
  ·exact ⟨0,(k,v),rfl,rfl⟩
  obtain ⟨j,q,h1,h2⟩:=sR h;exact ⟨j+1,q,by simpa using h1,by rw [h2];congr 1;omega⟩
theorem wT {α:Type} {enc:α→Value}:∀ {m:List (κ×α)} {i j:Nat} {q:κ×α},m[j]?=some q→{ key:=ke q.1,val:=enc q.2,born:=i+j }∈dR ke enc m i
 | [],_,_,_,h=>by simp at h
 | (k,v)::m,i,0,q,h=>by simp at h;subst h;simp [dR]
 | (k,v)::m,i,j+1,q,h=>by
  have:=wT (enc:=enc) (i:=i+1) (j:=j) (m:=m) (by simpa using h);rw [show i+1+j=i+(j+1) by omega] at this;exact List.mem_cons_of_mem _ this
theorem sT {α:Type} {enc:α→Value}:∀ {m:List (κ×α)} {i:Nat},((dR ke enc m i).map (·.born)).Nodup
 | [],_=>by simp [dR]
 | (k,v)::m,i=>by
  simp only [dR,List.map_cons,List.nodup_cons];refine ⟨fun h=>?_,sT⟩;obtain ⟨e,he,hb⟩:=List.mem_map.1 h;obtain ⟨j,q,_,rfl⟩:=sR he;simp at hb;omega
theorem rgM (ti:Nat) {t kt et:TypeId} {y:Operand} (hu:P.underlying t=some (.map kt et)) (hd:Nat.blt d x.k=true) (hy:ev L y=some (.map (some b))) (hm:Ms x Hs σ ke (fun v:Value=>v) (.map (some b)) hs) (hn:hs.length=n)
  (h:∀ r,OG P r0 ops nn p x Hs ((ti,aK.blk r (nI b n []))::σ) ((d,.pointer (some ⟨r,0,none⟩))::L) rest):OG P r0 ops nn p x Hs σ L (⟨some d,.range t y,ty,pos,af,none⟩::rest):=fun c w hS hA=>by
 have hb:=hm.obj hS;rw [hn] at hb;refine cB rfl (fun _ h=>by cases h) (w':=w.alloc (nI b n [])) (v:=.pointer (some ⟨w.heap.size,0,none⟩)) (by simp [execOp,hA.eval hy,run_range_map w t kt et b _ _ hu hb,nI]) ?_;refine h _ _ _ (hS.add (dZ.alloc _ w _) ti (x:=aK.blk w.heap.size (nI b n [])) (dO w _) ?_) (hA.put hd _);intro b hb;simp [aK.foot] at hb;omega
theorem nxM (ti:Nat) {y:Operand} {r:Nat} {seen:List Nat} (hd:Nat.blt d x.k=true) (hy:ev L y=some (.pointer (some ⟨r,0,none⟩))) (ht:bJ σ ti=some (aK.blk r (nI b n seen))) (hm:Ms x Hs σ ke (fun v:Value=>v) (.map (some b)) hs) (hn:hs.length=n)
  (h0:(∀ i,i < n→i∈seen)→OG P r0 ops nn p x Hs σ ((d,.tuple [.bool false].toArray)::L) rest)
  (h1:∀ i k v,hs[i]?=some (k,v)→i < n→i∉seen→OG P r0 ops nn p x Hs (cE σ ti (aK.blk r (nI b n (seen++[i])))) ((d,.tuple [.bool true,ke k,v].toArray)::L) rest):OG P r0 ops nn p x Hs σ L (⟨some d,.next y false,ty,pos,af,none⟩::rest):=fun c w hS hA=>by
 have hb:=hm.obj hS;rw [hn] at hb;have hr:w.heap[r]?=some (nI b n seen):=hS.get ht;have hborn:∀ {e:MapEntry},e∈(dR ke (fun v:Value=>v) hs 0)→∃ j q,hs[j]?=some q∧j < n∧e={ key:=ke q.1,val:=q.2,born:=j }:=fun he=>by
  obtain ⟨j,q,h1,h2⟩:=sR he;exact ⟨j,q,h1,by rw [← hn];exact aW h1,by simpa using h2⟩
 rcases run_next_at (P:=P) w ty r b n n seen.toArray (dR ke (fun v:Value=>v) hs 0).toArray n hr hb (fun e he=>by
  obtain ⟨j,q,_,hj,rfl⟩:=hborn (by simpa using he)
  exact hj) (Nat.le_refl _) with ⟨hz,hrun⟩ | ⟨e,he,w1,hw1,hrun⟩
 ·refine cB rfl (fun _ h=>by cases h) (w':=w) (v:=.tuple [.bool false].toArray) (by simp [execOp,hA.eval hy,hrun]) (h0 (fun i hi=>?_) _ w hS (hA.put hd _));have hq:hs[i]?=some hs[i]:=List.getElem?_eq_getElem (by omega);have hmem:=wT (ke:=ke) (enc:=fun v:Value=>v) (i:=0) hq;rw [Nat.zero_add] at hmem;have hl:(leftOf (dR ke (fun v:Value=>v) hs 0).toArray seen.toArray).toList=[]:=by
   rw [← List.length_eq_zero_iff];simpa using hz
  apply Classical.byContradiction;intro hc;have:({ key:=ke hs[i].1,val:=hs[i].2,born:=i }:MapEntry)∈(leftOf (dR ke (fun v:Value=>v) hs 0).toArray seen.toArray).toList:=by
   unfold leftOf;simp only [Array.toList_filter,List.mem_filter];exact ⟨hmem,by simpa using hc⟩
  rw [hl] at this;cases this
 unfold leftOf at he;simp only [Array.toList_filter,List.mem_filter] at he;obtain ⟨j,⟨k,v⟩,hj,hlt,rfl⟩:=hborn he.1;have hni:j∉seen:=by simpa using he.2
 replace hrun:(Instr.next (.pointer (some ⟨r,0,none⟩)) false ty).run P w=.ok (.tuple #[.bool true,ke k,v]) (Go.ChangeMaps.setBlock w1 r (.mapIter (some b) n (seen.toArray.push j) n)):=hrun
 refine cB rfl (fun _ h=>by cases h) (w':=Go.ChangeMaps.setBlock w1 r (.mapIter (some b) n (seen.toArray.push j) n)) (v:=.tuple [.bool true,ke k,v].toArray) (by simp [execOp,hA.eval hy,hrun]) ?_;have hS1:St x.M x.w0 x.H0 Hs σ w1:=by
  rcases hw1 with rfl | rfl
  ·exact hS
  exact hS.drew
 have hS2:=St.put (o':=nI b n (seen++[j])) hS1 ht;refine h1 j k v hj hlt hni _ _ ?_ (hA.put hd _);have e1:Go.ChangeMaps.setBlock w1 r (.mapIter (some b) n (seen.toArray.push j) n)=w1.putObj r (nI b n (seen++[j])):=by
  unfold nI;rw [List.push_toArray];rfl
 rw [e1];exact hS2
theorem enM (ti:Nat) {y:Operand} {r:Nat} {seen:List Nat} {i:Nat} {k:κ} {v:Value} (hd:Nat.blt d x.k=true) (hy:ev L y=some (.pointer (some ⟨r,0,none⟩))) (ht:bJ σ ti=some (aK.blk r (nI b n (seen++[i])))) (hm:Ms x Hs σ ke (fun v:Value=>v) (.map (some b)) hs) (hn:hs.length=n) (hi:hs[i]?=some (k,v))
  (h:OG P r0 ops nn p x Hs σ ((d,.tuple [ke k,v].toArray)::L) rest):OG P r0 ops nn p x Hs σ L (⟨some d,.entry y,ty,pos,af,none⟩::rest):=fun c w hS hA=>by
 have hb:=hm.obj hS;rw [hn] at hb;have hr:w.heap[r]?=some (.mapIter (some b) n (seen.toArray.push i) n):=by
  have:=hS.get ht;rw [List.push_toArray];exact this
 have hmem:=wT (ke:=ke) (enc:=fun v:Value=>v) (i:=0) hi;rw [Nat.zero_add] at hmem;have hrun:=run_entry_at (P:=P) w r b n seen.toArray (dR ke (fun v:Value=>v) hs 0).toArray n ({ key:=ke k,val:=v,born:=i }:MapEntry) hr hb (by simpa using hmem) (by simpa using sT (ke:=ke) (enc:=fun v:Value=>v) (m:=hs) (i:=0))
 replace hrun:(Instr.entry (.pointer (some ⟨r,0,none⟩))).run P w=.ok (.tuple #[ke k,v]) w:=hrun
 exact cB rfl (fun _ h=>by cases h) (v:=.tuple [ke k,v].toArray) (by simp [execOp,hA.eval hy,hrun]) (h _ w hS (hA.put hd _))
theorem ZG {y:Operand} {t u te:TypeId} {v:Value} {c:Bool} (hu:P.underlying t=some (.pointer te)) (hd:Nat.blt d x.k=true) (hy:ev L y=some v) (hv:(v=.pointer none∧c=true)∨((∃ q,v=.pointer (some q))∧c=false))
  (h:OG P r0 ops nn p x Hs σ ((d,.bool c)::L) rest):OG P r0 ops nn p x Hs σ L (⟨some d,.binOp .eql t y (.const (.pointer none)) u,ty,pos,af,none⟩::rest):=fun a w hS hA=>by
 have hp:P.underlying t=some (.pointer (P.pointee t)):=by rw [hu];simp [Program.pointee,hu]
 refine cB rfl (fun _ h=>by cases h) (w':=w) (v:=.bool c) ?_ (h _ w hS (hA.put hd _));rcases hv with ⟨rfl,rfl⟩ | ⟨⟨q,rfl⟩,rfl⟩ <;> simp [execOp,hA.eval hy,show a.eval (.const (.pointer none))=.pointer none from rfl,eqGuard,run_eql_pointer_nil,hp,Result.andThen]
end
end Pk
namespace Pk
open Go Go.Proofs
section
variable {P:Program} {r:Option Nat} {n:aU} {p:List PanicEntry→aU} {ops:Array Oper} {rest:List Oper} {d:Nat} {ty:TypeId} {pos:String} {af:Array Edge} {x:Fr} {Hs:List Hp} {σ:aP} {L:bM}
theorem St.mk1 {M:Prop} {w0 w:World} {H0 V:Hp} (hS:St M w0 H0 Hs σ w) (hV:V=eL w0 H0 σ w):St M w0 H0 [V] σ w:=⟨hS.h0,hS.ext,fun H hH=>(by
 rcases List.mem_cons.1 hH with rfl | h
 ·rw [hV];exact Hp.le.refl _
 cases h),hS.own,hS.apart⟩
theorem KO {M:Prop} {f:FuncId} {fn:Func} {c:Code} {nt:Nat} {w w0:World} {H0:Hp} {R:Ending→World→Prop} {l:List Value} (hf:P.funcs[f]?=some fn) (hb:fn.body=some c) (hn:fn.ntmps=nt) (hl:Nat.ble l.length nt=true) (hS:St M w0 H0 Hs σ w)
  (h:TG ⟨[],nt,M,w0,H0⟩ Hs σ (gP 0 l) (W P none c (Rt P fn R) (Rt P fn R) [] (fun ch a w=>a.defers=[]∧R (.panicked ch) w))):Calls P f l.toArray w R :=
 enter hf hb hn hl fun a hA=>h a w hS hA
def BG (M:Prop) (w0:World) (H0 V:Hp) (σ:aP) (Ψ:Value→Hp→Prop):Ending→World→Prop:=fun e w'=>∃ v K,e=.returned v∧St M w0 H0 [K,V] σ w'∧Ψ v K
theorem clQ (t:Nat) {o:aK} {y:Operand} {xs:List Operand} {ats:Array TypeId} {f:FuncId} {first cap:List Value} {vs args:List Value} {Ψ:Value→Hp→Prop} (hcall:∀ args w,(callFunc f args).run P w=.ok (.enter f args) w) (hf:ev L y=some (.func (.func f) first.toArray cap.toArray)) (hxs:lO L xs=some vs) (hargs:first++vs++cap=args) (hd:Nat.blt d x.k=true) (hσ:bJ σ t=some o)
  (hc:∀ w V σr,St x.M x.w0 x.H0 [V] ((1,o)::σr) w→EO Hs V→Calls P f args.toArray w (BG x.M x.w0 x.H0 V ((1,o)::σr) Ψ)) (h:∀ v K,Ψ v K→OG P r ops n p x (K::Hs) σ ((d,v)::L) rest):OG P r ops n p x Hs σ L (⟨some d,.call ⟨.value y,xs.toArray,ats⟩,ty,pos,af,none⟩::rest):=fun a w hS hA=>by
 subst hargs;have hS1:St x.M x.w0 x.H0 Hs ((1,o)::cD σ t) w:=hS.permO (by simpa using dT hσ);obtain ⟨V,hV⟩:∃ V,V=eL x.w0 x.H0 ((1,o)::cD σ t) w:=⟨_,rfl⟩;have hle:∀ (i:Nat) (K:Hp),Hs[i]?=some K→K.le V:=fun i K hi=>by rw [hV];exact hS1.at i hi
 refine eX rfl (fun _ h=>by cases h) (eA hA hf hxs hcall) (by simpa using hc w V _ (hS1.mk1 hV) hle) ?_ ?_ ?_
 ·rintro v w' ⟨v',K,e,hS',hΨ⟩;cases e
  have hS2:St x.M x.w0 x.H0 (K::Hs) ((1,o)::cD σ t) w':=⟨hS'.h0,hS'.ext,fun H hH=>(by
   rcases List.mem_cons.1 hH with rfl | hH
   ·exact hS'.le _ List.mem_cons_self
   obtain ⟨i,hi⟩:=List.getElem?_of_mem hH
   exact (hle i H hi).trans (hS'.le _ (List.mem_cons_of_mem _ List.mem_cons_self))),hS'.own,hS'.apart⟩
  exact h _ K hΨ _ w' (hS2.permO (by simpa using (dT hσ).symm)) (hA.put hd _)
 ·rintro ch w' ⟨v',K,e,_⟩;cases e
 rintro w' ⟨v',K,e,_⟩;cases e
theorem Rows.pairs {α:Type} {R:Hp→List Value→α→Prop} {size:Nat} {K:Hp}:∀ {css:List (List Value)} {l:List α},Rows R size K css l→∃ ll:List {p:List Value×α // p.1.length=size∧p.1.all (·.oneCell')=true∧R K p.1 p.2},ll.map (·.1.1)=css∧ll.map (·.1.2)=l
 | [],[],_=>⟨[],rfl,rfl⟩
 | cs::css,x::l,h=>by
  obtain ⟨ll,h1,h2⟩:=Rows.pairs h.2;exact ⟨⟨(cs,x),h.1⟩::ll,by simp [h1],by simp [h2]⟩
 | [],_::_,h=>h.elim
 | _::_,[],h=>h.elim
theorem CT {α:Type} {R:Hp→List Value→α→Prop} {size:Nat} {K:Hp}:∀ (ll:List {p:List Value×α // p.1.length=size∧p.1.all (·.oneCell')=true∧R K p.1 p.2}),Rows R size K (ll.map (·.1.1)) (ll.map (·.1.2))
 | []=>trivial
 | u::ll=>⟨u.2,CT ll⟩
theorem vC {α β:Type} {g:α→β}:∀ {l:List α},(l.map g).Nodup→∀ {x y:α},x∈l→y∈l→g x=g y→x=y
 | [],_,x,y,h,_,_=>by cases h
 | a::l,hn,x,y,hx,hy,e=>by
  simp only [List.map_cons,List.nodup_cons] at hn;rcases List.mem_cons.1 hx with hx' | hx' <;> rcases List.mem_cons.1 hy with hy' | hy'
  ·rw [hx',hy']
  ·subst hx';exact (hn.1 (List.mem_map.2 ⟨y,hy',e.symm⟩)).elim
  ·subst hy';exact (hn.1 (List.mem_map.2 ⟨x,hx',e⟩)).elim
  exact vC hn.2 hx' hy' e
theorem ZH (tg:Nat) {α:Type} {R:Hp→List Value→α→Prop} {k:Nat} {K:Hp} (i:Nat) (hK:Hs[i]?=some K) (hmono:oP R) {css:List (List Value)} {l l':List α} {f:α→α→Option Int} {fid:Nat} {z y s:Operand} {ats:Array TypeId} {ad:Option Addr} {cap nn:Nat} {el:TypeId} {g:FuncId} {cb:List Value}
  (hC:OH P fid k) (hcall:∀ args w,(callFunc fid args).run P w=.ok (.enter fid args) w) (hd:Nat.blt d x.k=true) (hz:ev L z=some (.func (.func fid) #[] #[])) (hs:ev L s=some (.slice ad nn cap)) (hσ:bJ σ tg=some (.rows ad cap el k css l)) (hR:Rows R k K css l) (hn:nn=l.length) (hy:ev L y=some (.func (.func g) #[] cb.toArray))
  (hF:∀ H,EO Hs H→iD True P H (.func (.func g) #[] cb.toArray) (ES (Vr R) (Vr R) (fun c=>.int .i64 c) f)) (hnd:l.Nodup) (hso:fU f l=some l')
  (h:∀ css',Rows R k K css' l'→OG P r ops n p x Hs (cE σ tg (.rows ad cap el k css' l')) ((d,.tuple #[])::L) rest):OG P r ops n p x Hs σ L (⟨some d,.call ⟨.value z,#[s,y],ats⟩,ty,pos,af,none⟩::rest):=by
 obtain ⟨ll,hc1,hc2⟩:=hR.pairs;obtain ⟨hok,hm⟩:=gW hso;have hlen:ll.length=l.length:=by rw [← hc2];simp
 have hrow:∀ (q:List {p:List Value×α // p.1.length=k∧p.1.all (·.oneCell')=true∧R K p.1 p.2}),aK.rows ad cap el k (q.map (·.1.1)) (q.map (·.1.2))=aK.list ad cap el k (fun u:{p:List Value×α // p.1.length=k∧p.1.all (·.oneCell')=true∧R K p.1 p.2}=>u.1.1) q:=fun q=>by
  unfold aK.rows aK.list;rw [List.length_map,List.flatMap_def]
 have hmem:∀ {u},u∈ll→u.1.2∈l:=fun hu=>by rw [← hc2];exact List.mem_map.2 ⟨_,hu,rfl⟩
 have hok':iP (fun u v:{p:List Value×α // p.1.length=k∧p.1.all (·.oneCell')=true∧R K p.1 p.2}=>f u.1.2 v.1.2) ll:=by
  refine ⟨by rw [hlen];exact hok.small,fun u hu v hv=>hok.some_ _ (hmem hu) _ (hmem hv),fun u hu=>hok.irr _ (hmem hu),fun u hu v hv t ht=>hok.tr _ (hmem hu) _ (hmem hv) _ (hmem ht),fun u hu v hv h1 h2=>?_⟩;have e:=hok.tot _ (hmem hu) _ (hmem hv) h1 h2;exact vC (g:=fun u:{p:List Value×α // p.1.length=k∧p.1.all (·.oneCell')=true∧R K p.1 p.2}=>u.1.2) (by rw [hc2];exact hnd) hu hv e
 have hso':fU (fun u v:{p:List Value×α // p.1.length=k∧p.1.all (·.oneCell')=true∧R K p.1 p.2}=>f u.1.2 v.1.2) ll=some (ll.mergeSort fun u v=>!dY (fun u v:{p:List Value×α // p.1.length=k∧p.1.all (·.oneCell')=true∧R K p.1 p.2}=>f u.1.2 v.1.2) v u):=by
  unfold fU;rw [if_pos hok']
 have hmap:(ll.mergeSort fun u v=>!dY (fun u v:{p:List Value×α // p.1.length=k∧p.1.all (·.oneCell')=true∧R K p.1 p.2}=>f u.1.2 v.1.2) v u).map (·.1.2)=l':=by
  exact (List.map_mergeSort (f:=fun u:{p:List Value×α // p.1.length=k∧p.1.all (·.oneCell')=true∧R K p.1 p.2}=>u.1.2) (s:=fun x y=>!dY f y x) (fun a _ b _=>rfl)).trans (by rw [hc2,hm])
 refine YZ tg (enc:=fun u:{p:List Value×α // p.1.length=k∧p.1.all (·.oneCell')=true∧R K p.1 p.2}=>u.1.1) (k:=k) (fun u=>u.2.1) (fun u=>u.2.2.1) (l:=ll) (V:=fun _ v u=>v=.agg u.1.1.toArray) (V':=fun _ v u=>v=.agg u.1.1.toArray) hC hcall hd hz hs (by rw [hσ,← hc1,← hc2,hrow]) (by rw [hn,hlen]) hy (fun H le=>?_) (fun _ _=>rfl) (fun _ _=>rfl) hso' ?_
 ·obtain ⟨f0,first,cap0,e,hc,hr⟩:=hF H le;refine ⟨f0,first,cap0,e,hc,?_⟩;rintro w K' args v h1 h2 ⟨u,u',a,a',c,e1,hx,hx',hp,e2⟩;exact hr w K' args v h1 h2 ⟨u,u',a.1.2,a'.1.2,c,e1,⟨_,hx,hmono _ _ _ _ ((le.at i hK).trans h1) a.2.2.2⟩,⟨_,hx',hmono _ _ _ _ ((le.at i hK).trans h1) a'.2.2.2⟩,hp,e2⟩
 have h2:=CT (ll.mergeSort fun u v=>!dY (fun u v:{p:List Value×α // p.1.length=k∧p.1.all (·.oneCell')=true∧R K p.1 p.2}=>f u.1.2 v.1.2) v u);have h3:=hrow (ll.mergeSort fun u v=>!dY (fun u v:{p:List Value×α // p.1.length=k∧p.1.all (·.oneCell')=true∧R K p.1 p.2}=>f u.1.2 v.1.2) v u);rw [hmap] at h2 h3;rw [← h3];exact h _ h2
end
section
variable {P:Program} {n:aU} {p:List PanicEntry→aU} {ops:Array Oper} {rest:List Oper} {d:Nat} {ty:TypeId} {pos:String} {af:Array Edge} {x:Fr} {Hs:List Hp} {σ:aP} {L:bM}
end
end Pk
namespace Pk
open Go Go.Proofs
def TH (P:Program) (f k:Nat):Prop :=
 (∀ p cap fv w,Calls P f #[.slice p 0 cap,fv] w fun e w'=>e=.returned (.tuple #[])∧w'=w) ∧
 ∀ (α:Type) (_:Inhabited α) (enc:α→List Value) (_:∀ x,(enc x).length=k) (_:∀ x,∀ v∈enc x,v.oneCell'=true) (cf:α→α→Int) (_:Sort.SWO (ltOf cf)) (g:Nat) (cb:Array Value) (blk off cap:Nat) (d:Array α) (w:World),
  (∀ args w,(callFunc g args).run P w=.ok (.enter g args) w)→CmpLays P g cb enc k cf blk off d.size w→Sort.HoldsK enc k w blk off d→blk < w.heap.size→d.size < 4611686018427387904 →
  Calls P f #[.slice (some ⟨blk,off,none⟩) d.size cap,.func (.func g) #[] cb] w fun e w'=>e=.returned (.tuple #[])∧∃ d' n os,Sort.PermIn 0 d.size d d'∧Sort.SortedIn (ltOf cf) 0 d.size d'∧w'=sortWorldK enc k w blk off n d' os
structure gE {α:Type} (f:α→α→Option Int) (l:List α):Prop where
 small:l.length≤1073741824
 some_:∀ x∈l,∀ y∈l,∃ c,f x y=some c
 irr:∀ x∈l,dY f x x=false
 tr:∀ x∈l,∀ y∈l,∀ z∈l,dY f x y=true→dY f y z=true→dY f x z=true
 nt:∀ x∈l,∀ y∈l,∀ z∈l,dY f x y=false→dY f y z=false→dY f x z=false
def pA {α:Type} (f:α→α→Option Int) (l l1:List α):Prop:=l1.Perm l∧l1.Pairwise fun x y=>dY f y x=false
open Classical in
noncomputable def BH {α ρ:Type} (p:Prop) (q:List α→Prop) (K:List α→Option ρ):Option ρ :=
 if h:p∧∃ z,∀ l1,q l1→K l1=some z then some h.2.choose else none
noncomputable def mK {α ρ:Type} (f:α→α→Option Int) (l:List α) (K:List α→Option ρ):Option ρ:=BH (gE f l) (pA f l) K
theorem BI {α ρ:Type} {f:α→α→Option Int} {l:List α} {K:List α→Option ρ} {z:ρ} (h:mK f l K=some z):gE f l∧∀ l1,pA f l l1→K l1=some z:=by
 unfold mK BH at h
 split at h
 ·rename_i h'
  cases h;exact ⟨h'.1,h'.2.choose_spec⟩
 cases h
theorem gE.perm {α:Type} {f:α→α→Option Int} {l l':List α} (hp:l'.Perm l) (h:gE f l):gE f l' :=
 ⟨by rw [hp.length_eq];exact h.small,fun x hx y hy=>h.some_ x (hp.subset hx) y (hp.subset hy),fun x hx=>h.irr x (hp.subset hx),fun x hx y hy z hz=>h.tr x (hp.subset hx) y (hp.subset hy) z (hp.subset hz),fun x hx y hy z hz=>h.nt x (hp.subset hx) y (hp.subset hy) z (hp.subset hz)⟩
theorem zA {α ρ:Type} {f:α→α→Option Int} {l l':List α} {K:List α→Option ρ} (hp:l'.Perm l):mK f l' K=mK f l K:=by
 have e1:gE f l'=gE f l:=propext ⟨fun h=>h.perm hp.symm,fun h=>h.perm hp⟩;have e2:pA f l'=pA f l:=funext fun l1=>propext ⟨fun h=>⟨h.1.trans hp,h.2⟩,fun h=>⟨h.1.trans hp.symm,h.2⟩⟩;unfold mK;rw [e1,e2]
theorem gE.swo {α:Type} {f:α→α→Option Int} {l:List α} (h:gE f l):Sort.SWO (ltOf fun (a b:{x // x∈l})=>(f a.1 b.1).getD 0)∧(∀ a b:{x // x∈l},ltOf (fun (a b:{x // x∈l})=>(f a.1 b.1).getD 0) a b=dY f a.1 b.1):=by
 have key:∀ a b:{x // x∈l},ltOf (fun (a b:{x // x∈l})=>(f a.1 b.1).getD 0) a b=dY f a.1 b.1:=fun a b=>by
  obtain ⟨c,hc⟩:=h.some_ a.1 a.2 b.1 b.2;simp [ltOf,dY,hc]
 exact ⟨⟨fun a=>by rw [key];exact h.irr _ a.2,fun a b c h1 h2=>by rw [key] at *;exact h.tr _ a.2 _ b.2 _ c.2 h1 h2,fun a b c h1 h2=>by rw [key] at *;exact h.nt _ a.2 _ b.2 _ c.2 h1 h2⟩,key⟩
theorem wU {α:Type} {f:α→α→Option Int} {l:List α} [Inhabited {u // u∈l}] (h:gE f l) {d':Array {u // u∈l}} (hp:Sort.PermIn 0 l.attach.toArray.size l.attach.toArray d') (hs:Sort.SortedIn (ltOf fun (a b:{x // x∈l})=>(f a.1 b.1).getD 0) 0 l.attach.toArray.size d'):pA f l (d'.toList.map (·.1)):=by
 obtain ⟨hsz,_,hperm⟩:=hp;have e1:d'.extract 0 l.attach.toArray.size=d':=by rw [← hsz];exact Array.extract_size
 rw [e1,Array.extract_size] at hperm;refine ⟨?_,?_⟩
 ·have:=hperm.map (fun u:{u // u∈l}=>u.1)
  rwa [show (l.attach.toArray.toList.map fun u=>u.1)=l from List.attach_map_subtype_val l] at this
 rw [List.pairwise_map,List.pairwise_iff_getElem];intro i j hi hj hij;have hi':i < d'.size:=by simpa using hi
 have hj':j < d'.size:=by simpa using hj
 have:=hs i j (Nat.zero_le _) hij (by omega);rw [getElem!_pos d' j hj',getElem!_pos d' i hi',h.swo.2] at this;simpa using this
section
variable {P:Program} {r:Option Nat} {n:aU} {p:List PanicEntry→aU} {ops:Array Oper} {rest:List Oper} {d:Nat} {ty:TypeId} {pos:String} {af:Array Edge} {x:Fr} {Hs:List Hp} {σ:aP} {L:bM}
theorem TI {α:Type} (tg:Nat) {enc:α→List Value} {k:Nat} (hk:∀ x,(enc x).length=k) (h1:∀ x,(enc x).all (·.oneCell')=true) {l:List α} {f:α→α→Option Int} {fid:Nat} {z y s:Operand} {ats:Array TypeId} {ad:Option Addr} {cap nn:Nat} {el:TypeId} {g:FuncId} {cb:List Value} {V V':Hp→Value→α→Prop}
  (hC:TH P fid k) (hcall:∀ args w,(callFunc fid args).run P w=.ok (.enter fid args) w) (hd:Nat.blt d x.k=true) (hz:ev L z=some (.func (.func fid) #[] #[])) (hs:ev L s=some (.slice ad nn cap)) (hσ:bJ σ tg=some (.list ad cap el k enc l)) (hn:nn=l.length) (hy:ev L y=some (.func (.func g) #[] cb.toArray))
  (hF:∀ H,EO Hs H→iD True P H (.func (.func g) #[] cb.toArray) (ES V V' (fun c=>.int .i64 c) f)) (hV:∀ H u,V H (.agg (enc u).toArray) u) (hV':∀ H u,V' H (.agg (enc u).toArray) u) (hok:gE f l)
  (h:∀ l',pA f l l'→OG P r ops n p x Hs (cE σ tg (.list ad cap el k enc l')) ((d,.tuple #[])::L) rest):OG P r ops n p x Hs σ L (⟨some d,.call ⟨.value z,#[s,y],ats⟩,ty,pos,af,none⟩::rest):=fun a w hS hA=>by
 subst hn;obtain ⟨eg,hcmp⟩:=BE (hF (eL x.w0 x.H0 σ w) fun i K hi=>hS.at i hi);have hrow:=hS.get hσ;have hxs:lO L [s,y]=some [.slice ad l.length cap,.func (.func g) #[] cb.toArray]:=by simp [lO,hs,hy]
 have enterIt:∀ R:Ending→World→Prop,Calls P fid #[.slice ad l.length cap,.func (.func g) #[] cb.toArray] w R→(∀ e w',R e w'→e=.returned (.tuple #[])∧∃ l',pA f l l'∧St x.M x.w0 x.H0 Hs (cE σ tg (.list ad cap el k enc l')) w')→O P r ops n p (⟨some d,.call ⟨.value z,#[s,y],ats⟩,ty,pos,af,none⟩::rest) a w:=fun R hR hk=>by
  refine eX rfl (fun _ h=>by cases h) (eA (xs:=[s,y]) (first:=#[]) (cap:=#[]) hA hz hxs hcall) (by simpa using hR) ?_ ?_ ?_
  ·intro v w' hv;obtain ⟨e,l',hl',hS'⟩:=hk _ _ hv;cases e;exact h l' hl' _ w' hS' (hA.put hd _)
  ·intro ch w' hv;cases (hk _ _ hv).1
  intro w' hv;cases (hk _ _ hv).1
 by_cases hl:l=[]
 ·subst hl;refine enterIt _ (hC.1 ad cap _ w) fun e w' hw=>⟨hw.1,[],⟨List.Perm.refl _,List.Pairwise.nil⟩,?_⟩;rw [hw.2];exact hS.as tg hσ rfl
 rcases hrow.2 with ⟨hn0,_⟩ | ⟨b,cap',cur,hv,_,hg,hnc,hcm,hcs,ht⟩
 ·simp only [Value.slice.injEq] at hn0;exact absurd (List.eq_nil_of_length_eq_zero hn0.2.1) hl
 simp only [Value.slice.injEq] at hv;obtain ⟨rfl,_,rfl⟩:=hv;have hx0:∃ u,u∈l:=List.exists_mem_of_ne_nil l hl
 haveI:Inhabited {u // u∈l}:=⟨⟨hx0.choose,hx0.choose_spec⟩⟩
 obtain ⟨hO,hlt⟩:=hok.swo;have hk':∀ u:{u // u∈l},(enc u.1).length=k:=fun u=>hk u.1;have hatt:l.attach.flatMap (fun u=>enc u.1)=l.flatMap enc:=by
  rw [List.flatMap_def,List.flatMap_def];congr 1;exact List.attach_map_val
 have hfl:(Sort.flatK (fun u:{u // u∈l}=>enc u.1) k l.attach.toArray).toList=l.flatMap enc:=by
  rw [jK hk'];exact hatt
 have hsz:l.attach.toArray.size=l.length:=by simp
 have hHolds:Sort.HoldsK (fun u:{u // u∈l}=>enc u.1) k w b 0 l.attach.toArray:=fun j hj=>by
  rw [Sort.size_flatK,hsz] at hj;have hj2:j < (Sort.flatK (fun u:{u // u∈l}=>enc u.1) k l.attach.toArray).size:=by rw [Sort.size_flatK,hsz];exact hj
  have hcj:cur[j]?=some ((Sort.flatK (fun u:{u // u∈l}=>enc u.1) k l.attach.toArray)[j]!):=by
   have h0:(cur.toList.take (l.length*k))[j]?=(l.flatMap enc)[j]?:=by rw [ht]
   rw [List.getElem?_take,if_pos hj,Array.getElem?_toList] at h0;rw [h0,← hfl,Array.getElem?_toList,Array.getElem?_eq_getElem hj2,getElem!_pos (Sort.flatK (fun u:{u // u∈l}=>enc u.1) k l.attach.toArray) j hj2]
  refine ⟨?_,?_⟩
  ·unfold World.cell?;rw [hg];simp only [Option.isSome_none,Bool.false_eq_true,if_false,Nat.zero_add,id];rw [hcj]
  unfold World.frozen?;rw [hg];simp
 have hcmp':CmpLays P g cb.toArray (fun u:{u // u∈l}=>enc u.1) k (fun a b=>(f a.1 b.1).getD 0) b 0 l.attach.toArray.size w:=fun m os dk _ u v=>by
  obtain ⟨c,hc⟩:=hok.some_ u.1 u.2 v.1 v.2;have:=hcmp (sortWorldK (fun u:{u // u∈l}=>enc u.1) k w b 0 m dk os) (sN (enc:=id) hS hσ rfl) (.agg (enc u.1).toArray) (.agg (enc v.1).toArray) u.1 v.1 c (hV _ _) (hV' _ _) hc;have e3:(f u.1 v.1).getD 0=c:=by rw [hc];rfl
  show Calls P g _ _ fun e w'=>e=.returned (.int .i64 ((f u.1 v.1).getD 0))∧_;rw [e3];exact this
 have hb:b < w.heap.size:=(Array.getElem?_eq_some_iff.1 hg).1;have hbig:l.attach.toArray.size < 4611686018427387904:=by
  rw [hsz];exact Nat.lt_of_le_of_lt hok.small (by decide)
 have hcon:=hC.2 {u // u∈l} inferInstance (fun u=>enc u.1) hk' (fun u v hv=>List.all_eq_true.1 (h1 u.1) v hv) (fun (a b:{u // u∈l})=>(f a.1 b.1).getD 0) hO g cb.toArray b 0 cap l.attach.toArray w eg hcmp' hHolds hb hbig;have hcon2:Calls P fid #[.slice (some ⟨b,0,none⟩) l.length cap,.func (.func g) #[] cb.toArray] w fun e w'=>e=.returned (.tuple #[])∧∃ (d':Array {u // u∈l}) (n:Nat) (os:Array Obj),pA f l (d'.toList.map (·.1))∧w'=sortWorldK (fun u:{u // u∈l}=>enc u.1) k w b 0 n d' os:=by
  rw [← hsz];exact hcon.mono fun e w' hw=>⟨hw.1,let ⟨d',n,os,hp,hs',hw'⟩:=hw.2;⟨d',n,os,wU hok hp hs',hw'⟩⟩
 refine enterIt _ hcon2 fun e w' hw=>⟨hw.1,?_⟩;obtain ⟨_,d',m,os,hso,rfl⟩:=hw;refine ⟨_,hso,?_⟩;have hlen:(d'.toList.map (·.1)).length=l.length:=hso.1.length_eq;have hds:d'.size=l.length:=by simpa using hlen
 have hms:(Sort.flatK (fun u:{u // u∈l}=>enc u.1) k d').size=l.length*k:=by rw [Sort.size_flatK,hds]
 obtain ⟨hG,cur',hg',hcs',ht'⟩:=rL (enc:=id) (m:=m) (os:=os) (d:=Sort.flatK (fun u:{u // u∈l}=>enc u.1) k d') hg (by rw [hms,hcs];exact Nat.mul_le_mul_right _ hnc);refine hS.step hσ hG ?_ (fun b' hb'=>.inl hb');refine ⟨by rw [eO hk],.inr ⟨b,cap,cur',by rw [hlen],Nat.zero_le _,hg',by omega,hcm,by rw [hcs',hcs],?_⟩⟩;rw [hms,List.map_id,jK hk'] at ht';rw [hlen,ht',List.flatMap_map]
end
abbrev aK.lisP {α:Type} (ad:Option Addr) (cap:Nat) (el:TypeId) (size:Nat) (enc:α→List Value) (l:List α):aK:=.any ad cap el size l.length fun xs=>∃ l':List α,l'.Perm l∧xs=l'.flatMap enc
section
variable {M:Prop} {w0 w:World} {H0:Hp} {Hs:List Hp} {α:Type} {ad:Option Addr} {cap:Nat} {el:TypeId} {size:Nat} {enc:α→List Value} {l l':List α} {t:Nat} {σ:aP}
theorem St.turn {o o':aK} (hS:St M w0 H0 Hs ((t,o)::σ) w) (hf:o'.foot=o.foot) (hh:o.holds w→o'.holds w):St M w0 H0 Hs ((t,o')::σ) w:=by
 have hfo:∀ b,eG ((t,o')::σ) b↔eG ((t,o)::σ) b:=fun b=>by
  unfold eG;constructor
  ·rintro ⟨i,x,hx,hb⟩;rcases List.mem_cons.1 hx with e | hx
   ·cases e;exact ⟨_,_,List.mem_cons_self,hf▸hb⟩
   exact ⟨i,x,List.mem_cons_of_mem _ hx,hb⟩
  rintro ⟨i,x,hx,hb⟩;rcases List.mem_cons.1 hx with e | hx
  ·cases e;exact ⟨_,_,List.mem_cons_self,hf▸hb⟩
  exact ⟨i,x,List.mem_cons_of_mem _ hx,hb⟩
 have hv:eL w0 H0 ((t,o')::σ) w=eL w0 H0 ((t,o)::σ) w:=by
  funext b;unfold eL;by_cases h:eG ((t,o)::σ) b
  ·rw [if_pos h,if_pos ((hfo b).2 h)]
  rw [if_neg h,if_neg fun h'=>h ((hfo b).1 h')]
 refine ⟨hS.h0,hS.ext,fun H hH=>by rw [hv];exact hS.le H hH,fun i x hx=>?_,?_⟩
 ·rcases List.mem_cons.1 hx with e | hx
  ·cases e;have:=hS.own t o List.mem_cons_self;exact ⟨hh this.1,by rw [hf];exact this.2⟩
  exact hS.own i x (List.mem_cons_of_mem _ hx)
 refine ⟨fun i y hy=>?_,hS.apart.2⟩;have h1:=hS.apart.1 i y hy;unfold Pk.apart at h1 ⊢
 rwa [hf]
theorem St.lisP (hp:l'.Perm l) (hS:St M w0 H0 Hs ((t,aK.list ad cap el size enc l')::σ) w):St M w0 H0 Hs ((t,aK.lisP ad cap el size enc l)::σ) w :=
 hS.turn rfl fun h=>⟨_,⟨l',hp,rfl⟩,by rw [← hp.length_eq];exact h⟩
theorem St.unP (hS:St M w0 H0 Hs ((t,aK.lisP ad cap el size enc l)::σ) w):∃ l':List α,l'.Perm l∧St M w0 H0 Hs ((t,aK.list ad cap el size enc l')::σ) w:=by
 obtain ⟨xs,⟨l',hp,rfl⟩,h⟩:=(hS.own t _ List.mem_cons_self).1;exact ⟨l',hp,hS.turn rfl fun _=>by rw [← hp.length_eq] at h;exact h⟩
theorem St.lisPP (hp:l'.Perm l) (hS:St M w0 H0 Hs ((t,aK.lisP ad cap el size enc l')::σ) w):St M w0 H0 Hs ((t,aK.lisP ad cap el size enc l)::σ) w:=by
 obtain ⟨l1,h1,h2⟩:=hS.unP;exact h2.lisP (h1.trans hp)
theorem TG.lisP {x:Fr} {L:bM} {N:aU} (h:TG x Hs ((t,aK.lisP ad cap el size enc l)::σ) L N):TG x Hs ((t,aK.list ad cap el size enc l)::σ) L N:=fun a w hS hA=>h a w (hS.lisP (List.Perm.refl _)) hA
theorem BG.lisP {V:Hp} {Ψ:Value→Hp→Prop} {e:Ending} {w':World} (hp:l'.Perm l) (h:BG M w0 H0 V ((t,aK.lisP ad cap el size enc l')::σ) Ψ e w'):BG M w0 H0 V ((t,aK.lisP ad cap el size enc l)::σ) Ψ e w' :=
 let ⟨v,K,he,hS,hΨ⟩:=h;⟨v,K,he,hS.lisPP hp,hΨ⟩
end
end Pk
namespace Pk
open Go
section
variable {x:Fr} {Hs:List Hp} {σ:aP} {L:bM} {N:aU} {ty:TypeId} {cs:List Value} {b:Nat} {K:Hp}
end
section
variable {P:Program} {r:Option Nat} {n:aU} {p:List PanicEntry→aU} {ops:Array Oper} {rest:List Oper} {d:Nat} {ty:TypeId} {pos:String} {af:Array Edge} {x:Fr} {A:Hp} {Hs:List Hp} {σ:aP} {L:bM}
end
end Pk
namespace Pk
open Go
section
variable {x:Fr} {Hs:List Hp} {σ:aP} {L:bM} {N:aU}
theorem TG.lie2 {A B:aP} {F:List aK} (hp:(A.map Prod.snd).Perm (F++B.map Prod.snd)) {Φ:Hp→Prop}
  (hΦ:∀ (K:Hp) (w:World),EO Hs K→(∀ z∈F,z.holds w∧∀ c,z.foot=some c→∀ o,w.heap[c]?=some o→K c=some o)→Φ K) (h:∀ K,Φ K→TG x (K::Hs) B L N):TG x Hs A L N:=by
 intro a w hS hA;have hpw:=(hp.pairwise_iff (R:=apart) (fun h=>dI h)).1 (dG.1 hS.apart);rw [List.pairwise_append] at hpw;obtain ⟨_,hB1,hFB⟩:=hpw;have hmem:∀ z,z∈F++B.map Prod.snd→∃ i,(i,z)∈A:=fun z hz=>wO (hp.symm.subset hz);have hS':St x.M x.w0 x.H0 Hs B w:=hS.re (fun i z hz=>.inl (hmem z (List.mem_append_right _ (List.mem_map.2 ⟨_,hz,rfl⟩)))) (dG.2 hB1);have hS2:St x.M x.w0 x.H0 (eL x.w0 x.H0 B w::Hs) B w:=by
  refine ⟨hS'.h0,hS'.ext,fun H hH=>?_,hS'.own,hS'.apart⟩;rcases List.mem_cons.1 hH with rfl | hH
  ·exact Hp.le.refl _
  exact hS'.le H hH
 refine h _ (hΦ _ w (fun i K hK=>hS'.le K (List.mem_of_getElem? hK)) fun z hz=>?_) a w hS2 hA;obtain ⟨i,hi⟩:=hmem z (List.mem_append_left _ hz);have ho:=hS.own i z hi;refine ⟨ho.1,fun c hc o hco=>St.seen (ho.2 c hc) ?_ hco⟩;rintro ⟨i',u,hu,hf⟩;exact hFB z hz u (List.mem_map.2 ⟨_,hu,rfl⟩) c hc hf
end
end Pk
namespace Pk
open Go
section
variable {α σ ε τ:Type}
def BJ (g:Nat→α→σ→σ⊕ε) (out:σ→ε):List α→Nat→σ→ε
 | [],_,a=>out a
 | x::l,i,a=>match g i x a with
  | .inl a'=>BJ g out l (i+1) a'
  | .inr e=>e
theorem jL (g:Nat→α→σ→σ⊕ε) (out:σ→ε) (i:Nat) (a:σ):BJ g out [] i a=out a:=rfl
theorem gY (g:Nat→α→σ→σ⊕ε) (out:σ→ε) (x:α) (l:List α) (i:Nat) (a:σ):BJ g out (x::l) i a=(match g i x a with | .inl a'=>BJ g out l (i+1) a' | .inr e=>e):=rfl
theorem pB (l:List α) (g:Nat→α→σ→σ⊕ε) (out:σ→ε) (I:Nat→σ→Prop) {step:Nat×σ→Option ((Nat×σ)⊕ε)}
  (hs:∀ i x a,i < l.length→l[i]?=some x→I i a→step (i,a)=some (match g i x a with | .inl a'=>.inl (i+1,a') | .inr e=>.inr e))
  (hI:∀ i x a a',i < l.length→l[i]?=some x→I i a→g i x a=.inl a'→I (i+1) a')
  (he:∀ a,I l.length a→step (l.length,a)=some (.inr (out a))) {a0:σ} (h0:I 0 a0):aY step (0,a0)=some (BJ g out l 0 a0):=by
 have key:∀ k i a,l.length - i=k→i≤l.length→I i a→aY step (i,a)=some (BJ g out (l.drop i) i a):=by
  intro k
  induction k with
  | zero =>
   intro i a hk hi hIa;obtain rfl:i=l.length:=by omega
   rw [bN (he a hIa),List.drop_length,jL]
  | succ k ih =>
   intro i a hk hi hIa;have hlt:i < l.length:=by omega
   have hx:l[i]?=some l[i]:=List.getElem?_eq_getElem hlt;rw [List.drop_eq_getElem_cons hlt,gY];have h1:=hs i _ a hlt hx hIa
   cases hg:g i l[i] a with
   | inl a' =>
    rw [hg] at h1;rw [cC h1,ih (i+1) a' (by omega) (by omega) (hI i _ a a' hlt hx hIa hg)]
   | inr e =>
    rw [hg] at h1;rw [bN h1]
 have:=key l.length 0 a0 (by omega) (by omega) h0;simpa using this
def BK (g:Nat→α→Option ε) (out:ε):List α→Nat→ε
 | [],_=>out
 | x::l,i=>match g i x with
  | none=>BK g out l (i+1)
  | some e=>e
theorem mX (l:List α) (g:Nat→α→Option ε) (out:ε) {step:Nat→Option (Nat⊕ε)}
  (hs:∀ i x,i < l.length→l[i]?=some x→step i=some (match g i x with | none=>.inl (i+1) | some e=>.inr e))
  (he:step l.length=some (.inr out)):aY step 0=some (BK g out l 0):=by
 have key:∀ k i,l.length - i=k→i≤l.length→aY step i=some (BK g out (l.drop i) i):=by
  intro k
  induction k with
  | zero =>
   intro i hk hi;obtain rfl:i=l.length:=by omega
   rw [bN he,List.drop_length];rfl
  | succ k ih =>
   intro i hk hi;have hlt:i < l.length:=by omega
   have hx:l[i]?=some l[i]:=List.getElem?_eq_getElem hlt;rw [List.drop_eq_getElem_cons hlt];have h1:=hs i _ hlt hx;simp only [BK]
   cases hg:g i l[i] with
   | none=>rw [hg] at h1;rw [cC h1,ih (i+1) (by omega) (by omega)]
   | some e=>rw [hg] at h1;rw [bN h1]
 have:=key l.length 0 (by omega) (by omega);simpa using this
theorem CU (p:α→Bool) (e out:ε):∀ (l:List α) (i:Nat),BK (fun _ x=>if p x then none else some e) out l i=if l.all p then out else e
 | [],_=>rfl
 | x::l,i=>by
  have ih:=CU p e out l (i+1);simp only [BK,List.all_cons] at ih ⊢;by_cases h:p x=true
  ·simp only [h,if_true,ih,Bool.true_and]
  simp [h]
theorem zB (f:σ→α→σ) (out:σ→ε):∀ (l:List α) (i:Nat) (a:σ),BJ (fun _ x a=>.inl (f a x)) out l i a=out (l.foldl f a)
 | [],_,_=>rfl
 | x::l,i,a=>by simp only [BJ,List.foldl_cons];exact zB f out l (i+1) (f a x)
theorem iZ (l:List α) (p:α→Bool) (e out:ε) {step:Nat→Option (Nat⊕ε)}
  (hs:∀ i x,i < l.length→l[i]?=some x→step i=some (if p x then .inl (i+1) else .inr e)) (he:step l.length=some (.inr out)):aY step 0=some (if l.all p then out else e):=by
 rw [mX l (fun _ x=>if p x then none else some e) out (fun i x hi hx=>by rw [hs i x hi hx];cases p x <;> simp) he,CU]
theorem fL (l:List α) (f:σ→α→σ) (out:σ→ε) (I:Nat→σ→Prop) {step:Nat×σ→Option ((Nat×σ)⊕ε)}
  (hs:∀ i x a,i < l.length→l[i]?=some x→I i a→step (i,a)=some (.inl (i+1,f a x)))
  (hI:∀ i x a,i < l.length→l[i]?=some x→I i a→I (i+1) (f a x))
  (he:∀ a,I l.length a→step (l.length,a)=some (.inr (out a))) {a0:σ} (h0:I 0 a0):aY step (0,a0)=some (out (l.foldl f a0)):=by
 rw [pB l (fun _ x a=>.inl (f a x)) out I (fun i x a hi hx h=>hs i x a hi hx h) (fun i x a a' hi hx h e=>by cases e;exact hI i x a hi hx h) he h0,zB]
theorem sU (f:α→τ):∀ (l:List α) (a:List τ),l.foldl (fun a x=>a++[f x]) a=a++l.map f
 | [],a=>by simp
 | x::l,a=>by simp [sU f l]
theorem jM (f:α→List τ):∀ (l:List α) (a:List τ),l.foldl (fun a x=>a++f x) a=a++l.flatMap f
 | [],a=>by simp
 | x::l,a=>by simp [jM f l]
theorem kM (l:List α) (F:α→τ) (out:List τ→ε) {step:Nat×List τ→Option ((Nat×List τ)⊕ε)}
  (hs:∀ i x a,i < l.length→l[i]?=some x→a.length=i→step (i,a)=some (.inl (i+1,a++[F x])))
  (he:∀ a,step (l.length,a)=some (.inr (out a))):aY step (0,[])=some (out (l.map F)):=by
 rw [fL l (fun a x=>a++[F x]) out (fun i a=>a.length=i) hs (fun i x a _ _ h=>by simp [h]) (fun a _=>he a) rfl,sU];rfl
theorem aQ {p:Prop} (h:p) (x:Option α):chk p x=x:=KA h x
theorem nX (x:Option α):(x.bind fun r=>some r)=x:=by cases x <;> rfl
end
end Pk
namespace Pk
open Go
section
variable {α β:Type}
noncomputable def CV (l:List α) (f:α→Option Bool) (s:Nat):Option (Nat⊕(Unit⊕Int)) :=
 if (s:Int) < (l.length:Int) then (l[s]?).bind fun x=>(f x).bind fun r=>if r then some (.inr (.inr (s:Int))) else some (.inl (s+1)) else some (.inr (.inl ()))
noncomputable def ON (l:List α) (f:α→Option Bool):Option Int:=(aY (CV l f) 0).bind fun e=>match e with
 | .inr z=>some z
 | .inl _=>some (-1)
noncomputable def OO (l:List α) (f:α→Option Bool):Option Bool:=(ON l f).bind fun r=>some (decide (0≤r))
noncomputable def zC (l:List α) (f:α→Option Bool):Option Bool:=(OO l (fun x=>(f x).bind fun r=>some (!r))).bind fun r=>some (!r)
theorem wV (p:α→Bool):∀ (l:List α) (i:Nat),BK (ε:=Unit⊕Int) (fun j x=>if p x then some (.inr (j:Int)) else none) (.inl ()) l i=if l.any p then .inr ((i:Int)+(l.findIdx p:Nat)) else .inl ()
 | [],_=>rfl
 | x::l,i=>by
  have ih:=wV p l (i+1);simp only [BK];by_cases h:p x=true
  ·simp [h,List.findIdx_cons]
  simp only [h,if_false,ih,List.any_cons,List.findIdx_cons,Bool.false_eq_true];simp only [Bool.not_eq_true] at h;simp only [Bool.false_or,cond_false];by_cases h2:l.any p=true
  ·simp only [h2,if_true];congr 1;omega
  simp [h2]
theorem EZ {l:List α} {f:α→Option Bool} (p:α→Bool) (h:∀ x∈l,f x=some (p x)):ON l f=some (if l.any p then ((l.findIdx p:Nat):Int) else -1):=by
 unfold ON;have hl:aY (CV l f) 0=some (BK (ε:=Unit⊕Int) (fun j x=>if p x then some (.inr (j:Int)) else none) (.inl ()) l 0):=by
  refine mX (ε:=Unit⊕Int) l (fun j x=>if p x then some (.inr (j:Int)) else none) (.inl ()) (fun i x hi hx=>?_) ?_
  ·unfold CV;rw [if_pos (by omega),hx,Option.bind_some,h x (List.mem_of_getElem? hx)];cases p x <;> rfl
  unfold CV;simp
 rw [hl,wV];by_cases h:l.any p=true
 ·simp only [h,if_true,Option.bind_some];congr 1;omega
 simp [h]
theorem FA {l:List α} {f:α→Option Bool} (p:α→Bool) (h:∀ x∈l,f x=some (p x)):OO l f=some (l.any p):=by
 unfold OO;rw [EZ p h];by_cases h2:l.any p=true
 ·simp only [h2,if_true,Option.bind_some];simp
 simp only [h2];simp
theorem gL {l:List α} {f:α→Option Bool} (p:α→Bool) (h:∀ x∈l,f x=some (p x)):zC l f=some (l.all p):=by
 unfold zC;rw [FA (fun x=>!p x) (fun x hx=>by rw [h x hx];rfl),Option.bind_some];congr 1
 induction l with
 | nil=>rfl
 | cons x l ih=>simp only [List.any_cons,List.all_cons,Bool.not_or,Bool.not_not];rw [ih (fun y hy=>h y (List.mem_cons_of_mem _ hy))]
noncomputable def FB (a:List α) (b:List β) (f:α→β→Option Bool) (s:Nat):Option (Nat⊕(Unit⊕Bool)) :=
 if (s:Int) < (a.length:Int) then (a[s]?).bind fun x=>(b[s]?).bind fun y=>(f x y).bind fun r=>if r then some (.inl (s+1)) else some (.inr (.inr false)) else some (.inr (.inl ()))
noncomputable def HI (a:List α) (b:List β) (f:α→β→Option Bool):Option Bool :=
 if (a.length:Int)≠(b.length:Int) then some false else (aY (FB a b f) 0).bind fun e=>match e with
 | .inr z=>some z
 | .inl _=>some true
def HJ (p:α→β→Bool):List α→List β→Bool
 | [],[]=>true
 | x::a,y::b=>p x y&&HJ p a b
 | _,_=>false
theorem wW (p:α→β→Bool):∀ (a:List α) (b:List β),a.length=b.length→HJ p a b=(a.zip b).all (fun q=>p q.1 q.2)
 | [],[],_=>rfl
 | x::a,y::b,h=>by simp only [HJ,List.zip_cons_cons,List.all_cons];rw [wW p a b (by simpa using h)]
 | [],y::b,h=>by simp at h
 | x::a,[],h=>by simp at h
theorem CW (p:α→β→Bool):∀ (a:List α) (b:List β),HJ p a b=true→a.length=b.length
 | [],[],_=>rfl
 | x::a,y::b,h=>by simp only [HJ,Bool.and_eq_true] at h;simp [CW p a b h.2]
 | [],y::b,h=>by simp [HJ] at h
 | x::a,[],h=>by simp [HJ] at h
theorem vD {a:List α} {b:List β} {f:α→β→Option Bool} (p:α→β→Bool) (h:∀ x∈a,∀ y∈b,f x y=some (p x y)):HI a b f=some (HJ p a b):=by
 unfold HI;by_cases hl:a.length=b.length
 ·rw [if_neg (by omega)];have h1:aY (FB a b f) 0=some (if (a.zip b).all (fun q=>p q.1 q.2) then .inl () else .inr false):=by
   refine iZ (a.zip b) _ _ _ (fun i x hi hx=>?_) ?_
   ·rw [List.length_zip] at hi;rw [List.getElem?_zip_eq_some] at hx;unfold FB;rw [if_pos (by omega),hx.1,Option.bind_some,hx.2,Option.bind_some,h _ (List.mem_of_getElem? hx.1) _ (List.mem_of_getElem? hx.2)];cases p x.1 x.2 <;> rfl
   rw [List.length_zip];unfold FB;rw [if_neg (by omega)]
  rw [h1,wW p a b hl];by_cases e:(a.zip b).all (fun q=>p q.1 q.2)=true <;> simp [e]
 rw [if_pos (by omega)];have:HJ p a b=false:=by
  rw [← Bool.not_eq_true];exact fun e=>hl (CW p a b e)
 rw [this]
noncomputable def BL [DecidableEq α] (a b:List α) (s:Nat):Option (Nat⊕(Unit⊕Bool)) :=
 if (s:Int) < (a.length:Int) then (a[s]?).bind fun x=>(b[s]?).bind fun y=>if x≠y then some (.inr (.inr false)) else some (.inl (s+1)) else some (.inr (.inl ()))
noncomputable def CX [DecidableEq α] (a b:List α):Option Bool :=
 if (a.length:Int)≠(b.length:Int) then some false else (aY (BL a b) 0).bind fun e=>match e with
 | .inr z=>some z
 | .inl _=>some true
theorem wX [DecidableEq α]:∀ (a b:List α),HJ (fun x y=>decide (x=y)) a b=decide (a=b)
 | [],[]=>rfl
 | x::a,y::b=>by simp only [HJ,wX a b,List.cons.injEq];by_cases h:x=y <;> simp [h]
 | [],y::b=>rfl
 | x::a,[]=>rfl
theorem BM [DecidableEq α] (a b:List α):CX a b=some (decide (a=b)):=by
 have h:CX a b=HI a b (fun x y=>some (decide (x=y))):=by
  unfold CX HI;have:BL a b=FB a b (fun x y=>some (decide (x=y))):=by
   funext s;unfold BL FB
   split
   ·cases a[s]? with
    | none=>rfl
    | some x =>
     cases b[s]? with
     | none=>rfl
     | some y=>by_cases e:x=y <;> simp [e]
   rfl
  rw [this]
 rw [h,vD (fun x y=>decide (x=y)) (fun _ _ _ _=>rfl),wX]
end
end Pk
namespace Pk
open Go Go.Lib
def FC (c:UInt8):Bool:=decide (48≤c.toNat∧c.toNat≤57)
def rD (l:aA) (a:Nat):Nat:=l.foldl (fun a c=>10*a+(c.toNat - 48)) a
theorem zD (l m:aA) (a:Nat):rD (l++m) a=rD m (rD l a):=by simp [rD]
theorem sV:∀ (l:aA) (a:Nat),decFrom a l=if l.all FC then some (rD l a) else none
 | [],a=>rfl
 | c::l,a=>by
  have ih:=fun b=>sV l b;simp only [decFrom,List.all_cons,rD,List.foldl_cons] at ih ⊢;unfold digitVal;by_cases h:FC c=true
  ·have h':=h;simp only [FC,decide_eq_true_eq] at h';simp only [h',and_self,if_true,h,Bool.true_and];rw [show a*10+(c.toNat - 48)=10*a+(c.toNat - 48) by omega];exact ih _
  have h':=h;simp only [FC,decide_eq_true_eq] at h';simp [h',h]
theorem HK {n:Nat} (h:n < 256):(UInt8.ofNat n).toNat=n:=by simp;omega
theorem HL {n:Nat} (h:n < 10):FC (UInt8.ofNat (48+n))=true:=by
 unfold FC;rw [HK (by omega)];simp;omega
theorem wY (u:Nat):(decDigits u).all FC=true:=by
 induction u using Nat.strongRecOn with
 | _ u ih =>
  rw [decDigits]
  split
  ·simp only [List.all_cons,List.all_nil,Bool.and_true];exact HL ‹_›
  rw [List.all_append,ih (u/10) (by omega)];simp only [List.all_cons,List.all_nil,Bool.and_true,Bool.true_and];exact HL (show u%10 < 10 by omega)
theorem CY (u:Nat):rD (decDigits u) 0=u:=by
 induction u using Nat.strongRecOn with
 | _ u ih =>
  rw [decDigits]
  split
  ·simp only [rD,List.foldl_cons,List.foldl_nil];rw [HK (by omega)];omega
  rw [zD,ih (u/10) (by omega)];simp only [rD,List.foldl_cons,List.foldl_nil];rw [HK (by omega)];omega
theorem HM (u:Nat):decDigits u≠[]:=by
 rw [decDigits];split <;> simp
theorem nY {u k:Nat} (h:u < 10 ^ k) (hk:1≤k):(decDigits u).length≤k:=by
 induction k generalizing u with
 | zero=>omega
 | succ k ih =>
  rw [decDigits]
  split
  ·simp
  rw [List.length_append];have h1:u/10 < 10 ^ k:=by rw [Nat.pow_succ] at h;omega
  have hk1:1≤k:=by
   rcases k with _ | k
   ·simp at h1;omega
   omega
  have:=ih h1 hk1;simp;omega
theorem HN {u:Nat} (h:u < 10 ^ 18):atoiAll (decDigits u)=.ok (u:Int):=by
 rw [atoiAll_short _ (nY h (by decide))];have ha:=wY u;have hv:=CY u
 cases hd:decDigits u with
 | nil=>exact absurd hd (HM u)
 | cons c r =>
  rw [hd] at ha hv;have hc:FC c=true:=by simp only [List.all_cons,Bool.and_eq_true] at ha;exact ha.1
  simp only [FC,decide_eq_true_eq] at hc;have h0:(c==45)=false:=by
   rw [beq_eq_false_iff_ne];rintro rfl;simp at hc
  have h1:(c==43)=false:=by
   rw [beq_eq_false_iff_ne];rintro rfl;simp at hc
  simp only [atoi,h0,h1,decNat,List.isEmpty_cons,sV,ha,hv];rfl
end Pk
namespace Pk
open Go
end Pk
namespace Pk
open Go
def bH {α:Type} (a b:Option α):Prop:=∀ r,a=some r→b=some r
section
variable {α β σ ε:Type}
theorem bH.refl (a:Option α):bH a a:=fun _ h=>h
theorem bH.bind {a a':Option α} {f f':α→Option β} (h:bH a a') (hf:∀ x,bH (f x) (f' x)):bH (a.bind f) (a'.bind f'):=fun r hr=>by
 obtain ⟨x,h1,h2⟩:=Option.bind_eq_some_iff.1 hr;rw [h x h1,Option.bind_some];exact hf x r h2
theorem bH.map {a a':Option α} {f:α→β} (h:bH a a'):bH (a.map f) (a'.map f):=fun r hr=>by
 obtain ⟨x,h1,h2⟩:=Option.map_eq_some_iff.1 hr;rw [h x h1,Option.map_some,h2]
theorem bH.ite {c:Prop} [Decidable c] {a a' b b':Option α} (h1:bH a a') (h2:bH b b'):bH (if c then a else b) (if c then a' else b'):=by
 split
 ·exact h1
 exact h2
def cO (p:Prop) [Decidable p] (x:Option α):Option α:=if p then x else none
theorem bH.chk {p:Prop} [Decidable p] {a a':Option α} (h:bH a a'):bH (cO p a) (chk p a'):=fun r hr=>by
 unfold cO at hr
 split at hr
 ·rw [aQ ‹_›];exact h r hr
 cases hr
def ML (step:σ→Option (σ⊕ε)) (n:Nat):σ→Option ε:=Nat.rec (fun _=>none) (fun _ ih s=>(step s).bind fun z=>match z with
 | .inl s'=>ih s'
 | .inr e=>some e) n
theorem bH.loop {f f':σ→Option (σ⊕ε)} (h:∀ s,bH (f s) (f' s)) (n:Nat):∀ s,bH (ML f n s) (aY f' s):=by
 induction n with
 | zero=>intro s r hr;cases hr
 | succ n ih =>
  intro s r hr;obtain ⟨z,h1,h2⟩:=Option.bind_eq_some_iff.1 (show (f s).bind _=some r from hr)
  cases z with
  | inl s'=>rw [cC (h s _ h1)];exact ih s' r h2
  | inr e=>cases h2;exact bN (h s _ h1)
def loopE (step:σ→Option (σ⊕ε)) (s:σ):Option ε:=ML step 1000000 s
theorem bH.loopE {f f':σ→Option (σ⊕ε)} (h:∀ s,bH (f s) (f' s)) (s:σ):bH (Pk.loopE f s) (aY f' s):=bH.loop h _ s
theorem bH.bindS {a a':Option (σ⊕ε)} {f f':σ⊕ε→Option β} (h:bH a a') (hl:∀ x,bH (f (.inl x)) (f' (.inl x))) (hr:∀ x,bH (f (.inr x)) (f' (.inr x))):bH (a.bind f) (a'.bind f') :=
 bH.bind h fun x=>by
  cases x
  ·exact hl _
  exact hr _
def FD (f:α→α→Option Int) (x:α):List α→List α
 | []=>[x]
 | y::l=>if dY f x y then x::y::l else y::FD f x l
def BN (f:α→α→Option Int):List α→List α
 | []=>[]
 | x::l=>FD f x (BN f l)
theorem vE (f:α→α→Option Int) (x:α):∀ l,(FD f x l).Perm (x::l)
 | []=>.refl _
 | y::l=>by
  unfold FD
  split
  ·exact .refl _
  exact ((vE f x l).cons y).trans (.swap x y l)
theorem vF (f:α→α→Option Int):∀ l,(BN f l).Perm l
 | []=>.refl _
 | x::l=>(vE f x _).trans ((vF f l).cons x)
theorem bH.trans {a b c:Option α} (h1:bH a b) (h2:bH b c):bH a c:=fun r hr=>h2 r (h1 r hr)
theorem bH.recO {G:Nat→Option β} (h:∀ n,bH (G n) (G (n+1))) (n:Nat):bH (G n) (recO G):=fun r hr=>by
 have up:∀ k m r,G m=some r→G (m+k)=some r:=fun k=>by
  induction k with
  | zero=>intro m r h;exact h
  | succ k ih=>intro m r hm;exact h (m+k) r (ih m r hm)
 refine wK n hr fun m r' hm=>?_;have h1:=up m n r hr;have h2:=up n m r' hm;rw [Nat.add_comm m n,h1] at h2;exact (Option.some.inj h2).symm
end
end Pk
namespace Pk
open Go
section
variable {α:Type}
theorem pC {f:α→α→Option Int} {l l':List α} (hok:iP f l) (hp:l'.Perm l) (hs:l'.Pairwise fun x y=>dY f y x=false):fU f l=some l':=by
 unfold fU;rw [if_pos hok];congr 1;have hmap:(l.attach.mergeSort fun a b=>!dY f b.1 a.1).map (·.1)=l.mergeSort fun x y=>!dY f y x:=by
  rw [List.map_mergeSort (s:=fun x y=>!dY f y x) (fun a _ b _=>rfl)];congr 1;exact List.attach_map_subtype_val l
 have hpw:(l.attach.mergeSort fun a b=>!dY f b.1 a.1).Pairwise (fun a b=>(!dY f b.1 a.1)=true):=by
  refine List.pairwise_mergeSort (fun a b c h1 h2=>?_) (fun a b=>?_) _
  ·simp only [Bool.not_eq_true'] at *
   cases h3:dY f c.1 a.1 with
   | false=>rfl
   | true =>
    exfalso
    cases h4:dY f a.1 b.1 with
    | true=>rw [hok.tr _ c.2 _ a.2 _ b.2 h3 h4] at h2;cases h2
    | false =>
     have e:=hok.tot _ a.2 _ b.2 h4 h1;rw [← e] at h2;rw [h2] at h3;cases h3
  simp only [Bool.or_eq_true,Bool.not_eq_true']
  cases h3:dY f b.1 a.1 with
  | false=>exact .inl rfl
  | true =>
   right
   cases h4:dY f a.1 b.1 with
   | false=>rfl
   | true=>have:=hok.tr _ a.2 _ b.2 _ a.2 h4 h3;rw [hok.irr _ a.2] at this;cases this
 have hpw':(l.mergeSort fun x y=>!dY f y x).Pairwise (fun x y=>(!dY f y x)=true):=by
  rw [← hmap,List.pairwise_map];exact hpw
 refine List.Perm.eq_of_pairwise (le:=fun x y=>(!dY f y x)=true) ?_ hpw' ?_ ((List.mergeSort_perm _ _).trans hp.symm)
 ·intro x y hx hy h1 h2;have hx':x∈l:=(List.mergeSort_perm _ _).subset hx;have hy':y∈l:=hp.subset hy;simp only [Bool.not_eq_true'] at h1 h2;exact hok.tot _ hx' _ hy' h2 h1
 exact hs.imp fun h=>by simpa using h
def TJ (f:α→α→Option Int):List α→Bool
 | []=>true
 | x::l=>l.all (fun y=>!dY f y x)&&TJ f l
theorem HO {f:α→α→Option Int}:∀ {l:List α},TJ f l=true→l.Pairwise fun x y=>dY f y x=false
 | [],_=>.nil
 | x::l,h=>by
  unfold TJ at h;rw [Bool.and_eq_true,List.all_eq_true] at h;exact .cons (fun y hy=>by simpa using h.1 y hy) (HO h.2)
def ZI [DecidableEq α] (f:α→α→Option Int) (l:List α):Bool:=Nat.ble l.length 1073741824&&l.all fun x=>!dY f x x&&l.all fun y=>(f x y).isSome&&(dY f x y||dY f y x||decide (x=y))&&l.all fun z=>!(dY f x y&&dY f y z)||dY f x z
def sortG [DecidableEq α] (f:α→α→Option Int) (l:List α):Option (List α):=if ZI f l&&TJ f (BN f l) then some (BN f l) else none
theorem bH.sortG [DecidableEq α] {f f':α→α→Option Int} (h:∀ x y,bH (f x y) (f' x y)) (l:List α):bH (sortG f l) (fU f' l):=fun r hr=>by
 unfold Pk.sortG at hr
 split at hr
 ·rename_i hc
  cases hr;rw [Bool.and_eq_true] at hc;obtain ⟨ho,hp⟩:=hc;unfold ZI at ho;simp only [Bool.and_eq_true,List.all_eq_true,Bool.not_eq_true',Bool.or_eq_true,Bool.and_eq_false_imp,decide_eq_true_eq] at ho;have hperm:=vF f l;have e:∀ x∈l,∀ y∈l,dY f' x y=dY f x y:=fun x hx y hy=>by
   obtain ⟨c,h1⟩:=Option.isSome_iff_exists.1 ((ho.2 x hx).2 y hy).1.1;unfold dY;rw [h1,h _ _ _ h1]
  refine pC ⟨Nat.le_of_ble_eq_true ho.1,fun x hx y hy=>?_,fun x hx=>by rw [e x hx x hx];exact (ho.2 x hx).1,fun x hx y hy z hz h1 h2=>?_,fun x hx y hy h1 h2=>?_⟩ hperm ((HO hp).imp_of_mem fun {x y} hx hy h=>by
   rw [e _ (hperm.subset hy) _ (hperm.subset hx)];exact h)
  ·obtain ⟨c,h1⟩:=Option.isSome_iff_exists.1 ((ho.2 x hx).2 y hy).1.1;exact ⟨c,h _ _ _ h1⟩
  ·rw [e x hx y hy] at h1;rw [e y hy z hz] at h2;rw [e x hx z hz];rcases ((ho.2 x hx).2 y hy).2 z hz with h3 | h3
   ·rw [h3 h1] at h2;cases h2
   exact h3
  rw [e x hx y hy] at h1;rw [e y hy x hx] at h2;rcases ((ho.2 x hx).2 y hy).1.2 with (h3 | h3) | h3
  ·rw [h3] at h1;cases h1
  ·rw [h3] at h2;cases h2
  exact h3
 cases hr
def pD (x:α):List α→List (List α)
 | []=>[[x]]
 | y::l=>(x::y::l)::(pD x l).map (y :: ·)
def rO:List α→List (List α)
 | []=>[[]]
 | x::l=>(rO l).flatMap (pD x)
theorem sW (x:α):∀ (a b:List α),a++x::b∈pD x (a++b)
 | [],[]=>by simp [pD]
 | [],y::b=>by simp [pD]
 | y::a,b=>by
  simp only [List.cons_append,pD,List.mem_cons,List.mem_map];exact .inr ⟨_,sW x a b,rfl⟩
theorem qA:∀ {l l':List α},l'.Perm l→l'∈rO l
 | [],l',h=>by rw [List.perm_nil.1 h];simp [rO]
 | x::l,l',h=>by
  obtain ⟨a,b,rfl⟩:=List.append_of_mem (h.symm.subset List.mem_cons_self);have h2:(a++b).Perm l:=(List.perm_cons x).1 (List.perm_middle.symm.trans h);exact List.mem_flatMap.2 ⟨_,qA h2,sW x a b⟩
end
section
variable {S ρ:Type}
theorem bH.foldK {step step':S→Nat→Option (S⊕ρ)} {Kf Kf':S→Option ρ} (h:∀ s i,bH (step s i) (step' s i)) (hk:∀ s,bH (Kf s) (Kf' s)):∀ (l:List Nat) (s:S),bH (Pk.foldK step Kf l s) (Pk.foldK step' Kf' l s)
 | [],s=>hk s
 | i::l,s=>fun r hr=>by
  simp only [Pk.foldK] at hr ⊢
  cases e:step s i with
  | none=>rw [e] at hr;cases hr
  | some y =>
   rw [e] at hr;rw [h s i y e]
   cases y with
   | inl s'=>exact bH.foldK h hk l s' r hr
   | inr z=>exact hr
def ordE [DecidableEq ρ] (n:Nat) (step:S→Nat→Option (S⊕ρ)) (Kf:S→Option ρ) (s0:S):Option ρ :=
 match Pk.foldK step Kf (List.range n) s0 with
 | some z=>if (rO (List.range n)).all (fun l=>decide (Pk.foldK step Kf l s0=some z)) then some z else none
 | none=>none
theorem bH.ordE [DecidableEq ρ] {n:Nat} {step step':S→Nat→Option (S⊕ρ)} {Kf Kf':S→Option ρ} (h:∀ s i,bH (step s i) (step' s i)) (hk:∀ s,bH (Kf s) (Kf' s)) (s0:S):bH (Pk.ordE n step Kf s0) (wS n step' Kf' s0):=fun r hr=>by
 unfold Pk.ordE at hr
 split at hr
 ·rename_i z hz
  split at hr
  ·rename_i hall
   cases hr;rw [List.all_eq_true] at hall;have key:∀ l:List Nat,l.Perm (List.range n)→Pk.foldK step' Kf' l s0=some r:=fun l hl=>bH.foldK h hk l s0 r (by simpa using hall l (qA hl));unfold wS;have hex:∃ z,∀ l:List Nat,l.Perm (List.range n)→Pk.foldK step' Kf' l s0=some z:=⟨r,key⟩;rw [dif_pos hex];have h1:=hex.choose_spec _ (List.Perm.refl _);rw [key _ (List.Perm.refl _)] at h1;exact h1.symm
  cases hr
 cases hr
end
section
variable {α ρ:Type}
theorem zE {f:α→α→Option Int} {l:List α} {K:List α→Option ρ} {z:ρ} (h:gE f l) (hz:∀ l1,pA f l l1→K l1=some z):mK f l K=some z:=by
 have hex:gE f l∧∃ z,∀ l1,pA f l l1→K l1=some z:=⟨h,z,hz⟩;have hd:∃ l1,pA f l l1:=by
  refine ⟨(l.attach.mergeSort fun a b=>!dY f b.1 a.1).map (·.1),?_,?_⟩
  ·have:=(List.mergeSort_perm l.attach fun a b=>!dY f b.1 a.1).map (fun u:{u // u∈l}=>u.1)
   rwa [List.attach_map_subtype_val] at this
  rw [List.pairwise_map];refine (List.pairwise_mergeSort (fun a b c h1 h2=>?_) (fun a b=>?_) _).imp fun h=>by simpa using h
  ·simp only [Bool.not_eq_true'] at *;exact h.nt _ c.2 _ b.2 _ a.2 h2 h1
  simp only [Bool.or_eq_true,Bool.not_eq_true']
  cases h3:dY f b.1 a.1 with
  | false=>exact .inl rfl
  | true =>
   right
   cases h4:dY f a.1 b.1 with
   | false=>rfl
   | true=>have:=h.tr _ a.2 _ b.2 _ a.2 h4 h3;rw [h.irr _ a.2] at this;cases this
 unfold mK BH;rw [dif_pos hex];obtain ⟨l1,h1⟩:=hd;have h2:=hex.2.choose_spec l1 h1;rw [hz l1 h1] at h2;exact h2.symm
theorem iP.weak {f:α→α→Option Int} {l:List α} (h:iP f l):gE f l:=⟨h.small,h.some_,h.irr,h.tr,fun x hx y hy z hz h1 h2=>by
 cases h3:dY f x z with
 | false=>rfl
 | true =>
  exfalso
  cases h4:dY f y x with
  | true =>
   have:=h.tr _ hy _ hx _ hz h4 h3;rw [this] at h2;cases h2
  | false =>
   have e:=h.tot _ hx _ hy h1 h4;rw [e] at h3
   rw [h3] at h2;cases h2⟩
def sortV [DecidableEq α] (f:α→α→Option Int) (l:List α) (K:List α→Option ρ):Option ρ:=if ZI f l&&TJ f (BN f l) then K (BN f l) else none
theorem bH.sortV [DecidableEq α] {f f':α→α→Option Int} {K K':List α→Option ρ} (h:∀ x y,bH (f x y) (f' x y)) (hk:∀ l,bH (K l) (K' l)) (l:List α):bH (Pk.sortV f l K) (mK f' l K'):=fun r hr=>by
 unfold Pk.sortV at hr
 split at hr
 ·rename_i hc
  have h1:Pk.sortG f l=some (BN f l):=by unfold Pk.sortG;rw [if_pos hc]
  have h2:=bH.sortG h l _ h1;obtain ⟨hok,hm⟩:=gW h2;refine zE hok.weak fun l1 hl1=>?_;have h3:=pC hok hl1.1 hl1.2;rw [h2] at h3;rw [← Option.some.inj h3];exact hk _ _ hr
 cases hr
end
section
variable {α β σ ε S ρ:Type}
theorem dK (a:Option α):bH a a:=bH.refl a
theorem oL {f f':σ→Option (σ⊕ε)} (h:∀ s,bH (f s) (f' s)) (s:σ):bH (loopE f s) (aY f' s):=bH.loopE h s
theorem ZJ [DecidableEq α] {f f':α→α→Option Int} (h:∀ x y,bH (f x y) (f' x y)) (l:List α):bH (sortG f l) (fU f' l):=bH.sortG h l
theorem lq3 [DecidableEq ρ] {n:Nat} {step step':S→Nat→Option (S⊕ρ)} {Kf Kf':S→Option ρ} (h:∀ s i,bH (step s i) (step' s i)) (hk:∀ s,bH (Kf s) (Kf' s)) (s0:S):bH (ordE n step Kf s0) (wS n step' Kf' s0):=bH.ordE h hk s0
theorem lq4 [DecidableEq α] {f f':α→α→Option Int} {K K':List α→Option ρ} (h:∀ x y,bH (f x y) (f' x y)) (hk:∀ l,bH (K l) (K' l)) (l:List α):bH (sortV f l K) (mK f' l K'):=bH.sortV h hk l
theorem pE {p:Prop} [Decidable p] {a a':Option α} (h:bH a a'):bH (cO p a) (chk p a'):=bH.chk h
theorem eW {c:Prop} [Decidable c] {a a' b b':Option α} (h1:bH a a') (h2:bH b b'):bH (if c then a else b) (if c then a' else b'):=bH.ite h1 h2
theorem uM {a a':Option (σ⊕ε)} {f f':σ⊕ε→Option β} (h:bH a a') (hl:∀ x,bH (f (.inl x)) (f' (.inl x))) (hr:∀ x,bH (f (.inr x)) (f' (.inr x))):bH (a.bind f) (a'.bind f'):=bH.bindS h hl hr
theorem dM {a a':Option α} {f f':α→Option β} (h:bH a a') (hf:∀ x,bH (f x) (f' x)):bH (a.bind f) (a'.bind f'):=bH.bind h hf
theorem ZK {a a':Option α} {f:α→β} (h:bH a a'):bH (a.map f) (a'.map f):=bH.map h
end
end Pk
