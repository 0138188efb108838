/-
  The kit,third text: ranges over functions,errors,arguments;plain lemmas on models.
-/
import Derived.Test.YtehbdldbihhleaaGreatDoorKitTwo
import Derived.RangeFuncLeaves
import Derived.RangeFuncRecord
import Derived.RangeFuncOwn
import Derived.RangeFuncNested
import Derived.WideLaws
import Derived.Shelf.Strconv.AtoiAll
import Derived.Shelf.Strconv.Itoa3
import Derived.Carry
import Derived.ProofKit
import Derived.LaidMore
import Derived.OpenShut
import Derived.Stop.Joined
import Derived.Shelf.SlSortCmp.NoneTotal
import Derived.Shelf.Vars
import Derived.Lib.AppendZeros
import Derived.SizedLaws
import Derived.Laws.BytesArg
import Derived.Lib.SlicesCompact
import Derived.Lib.AppendStr
import Derived.Maps.RangeRun
import Derived.Laws.Pointers
import Derived.Lib.SlBytesConst
import Derived.Laws.CopyRow
import Derived.Test.YtehbdldbihhleaaGreatDoorKitOne
set_option linter.all false
namespace Pk
open Go
section
variable {P:Program} {r:Option Nat} {n rt:aV} {e:List (Nat×aV)} {p:List PanicEntry→aV} {x:Fr} {Hs:List Hp} {σ:aM} {L:cB} {N:aV}
def RtD (P:Program) (fn:Func) (R:Ending→World→Prop) (D:List Deferred):aV:=fun a w=>LeavesInM (FW none) 0 P fn a.tmps R D .returning w
def OD (P:Program) (fn:Func) (R:Ending→World→Prop):aV:=fun a w=>LeavesInM (FW none) 0 P fn a.tmps R a.defers .returning w
abbrev mk1 (b:Nat):Deferred:={ target:=.collected b,args:=#[] }
theorem DB {f:FuncId} {fn:Func} {c:Code} {nt:Nat} {w:World} {R:Ending→World→Prop} {l:List Value} (hf:P.funcs[f]?=some fn) (hb:fn.body=some c) (hn:fn.ntmps=nt) (hl:Nat.ble l.length nt=true)
  (h:∀ a,bQ [] nt a (jB 0 l)→W P none c (OD P fn R) (OD P fn R) [] (fun _ _ _=>False) a w):Calls P f l.toArray w R:=by
 have hl':l.length≤nt:=by simpa using hl
 have h1:=h { tmps:=l.toArray++Array.replicate (fn.ntmps-l.toArray.size) undef,defers:=[] } ⟨rfl,by simp [hn];omega,fun i v hi=>by
  obtain ⟨_,h2⟩:=mV l 0 i v hi;simp only [Nat.sub_zero] at h2;have hlt:i<l.length:=(List.getElem?_eq_some_iff.1 h2).1;rw [Array.getElem?_append_left (by simpa using hlt)]
  simpa using h2⟩
 refine (callsIn_wide (n:=0)).1 (callsIn_of_wp_marks hf hb trivial ?_);refine wpIn_mono h1 ?_;intro z a w hz
 cases z with
 | normal=>exact hz
 | ret=>exact hz
 | panic ch=>exact hz.elim
 | exit id=>obtain ⟨K,hK,_⟩:=hz;simp [uD] at hK
 | goto l=>exact hz
 | outgrown=>exact hz.elim
theorem pY {M:Prop} {f:FuncId} {fn:Func} {c:Code} {nt:Nat} {w:World} {R:Ending→World→Prop} {l:List Value} (hf:P.funcs[f]?=some fn) (hb:fn.body=some c) (hn:fn.ntmps=nt) (hl:Nat.ble l.length nt=true) {H:Hp} (hH:H.le (hp w))
  (h:TG ⟨[],nt,M,w,H⟩ [H] [] (jB 0 l) (W P none c (OD P fn R) (OD P fn R) [] (fun _ _ _=>False))):Calls P f l.toArray w R :=
 DB hf hb hn hl fun a hA=>h a w (St.start M w hH) hA
variable {fn:Func} {R:Ending→World→Prop} {D:List Deferred} {k:Nat} {M:Prop} {w0:World} {H0:Hp}
theorem OE (h:TG ⟨D,k,M,w0,H0⟩ Hs σ L (RtD P fn R D)):TG ⟨D,k,M,w0,H0⟩ Hs σ L (OD P fn R):=fun a w hS hA=>by
 have:=h a w hS hA;unfold OD;rw [hA.defers];exact this
theorem St.put {t b:Nat} {o o':Obj} {w:World} (hS:St M w0 H0 Hs σ w) (hσ:cJ σ t=some (.blk b o)):St M w0 H0 Hs (dP σ t (.blk b o')) (w.putObj b o'):=by
 have hb:w.heap[b]?=some o:=hS.get hσ;exact hS.step hσ (y:=.blk b o') ⟨grownBy_putObj' w b o',Nat.le_refl _⟩ (World.putObj_heap_same (Array.getElem?_eq_some_iff.1 hb).1) (fun _ h=>.inl h)
theorem UR (t:Nat) {b:Nat} (hσ:cJ σ t=some (.blk b (.deferred (some [])))) (h:TG x Hs (dP σ t (.blk b (.deferred none))) L (RtD P fn R D)):TG x Hs σ L (RtD P fn R (mk1 b::D)):=fun a w hS hA=>by
 have hb:w.heap[b]?=some (.deferred (some [])):=hS.get hσ;exact ⟨by simp,.inl ⟨b,_,rfl,run_takeDeferred hb,h a _ (St.put hS hσ) hA⟩⟩
theorem OF {D':List Deferred} (h:TG ⟨[],k,M,w0,H0⟩ Hs σ L (Rt P fn R)):TG ⟨D',k,M,w0,H0⟩ Hs σ L (RtD P fn R []):=fun a w hS hA=>by
 obtain ⟨_,v,h1,h2⟩:=h { a with defers:=[] } w hS ⟨rfl,hA.size,hA.get⟩;exact ⟨v,h1,h2⟩
abbrev LR (fn:FuncId) (tm:Array Value) (ps:Array Tmp) (asg body:Code) (dB:Nat) (st:LoopState) (pe:Option Code):Obj:=.loop { state:=st,pending:=pe,fn:=fn,tmps:=tm,params:=ps,assign:=asg,body:=body,defers:=dB }
def OH (O:LoopState→Option Code→Obj) (tm:Array Value) (ps:List Tmp) (asg body:Code):Prop:=∃ fn dB,∀ s q,O s q=LR fn tm ps.toArray asg body dB s q
def EL (P:Program) (r:Option Nat) (l:Nat) (n rt:aV) (e:List (Nat×aV)) (p:List PanicEntry→aV):aV:=fun a w=>∃ jump w',(Instr.endLoop l).run P w=.ok jump w'∧(match jump with|none=>n a w'|some c=>W P r c n rt e p a w')
theorem JS {f:FuncId} {args:Array Value} {w:World} (h:Calls P f args w R):CallsIn (FW r) (0-1) P f args w R:=(callsIn_wide (n:=0)).2 h
theorem WE {g:Operand} {ps:List Tmp} {asg body:Code} {f:FuncId} {fnc:Func} {cd:Code} {nt:Nat} {cap:List Value} (tl tD:Nat)
  (hcall:∀ args w,(callFunc f args).run P w=.ok (.enter f args) w) (hfn:P.funcs[f]?=some fnc) (hb:fnc.body=some cd) (hn:fnc.ntmps=nt)
  (hg:ev L g=some (.func (.func f) #[] cap.toArray)) (hl:Nat.ble (cap.length+1) nt=true) (J:Nat→Nat→(LoopState→Option Code→Obj)→World→Prop)
  (h1:∀ l dB O tm,bQ [] x.k ⟨tm,[]⟩ L→OH O tm ps asg body→TG ⟨[],nt,x.M,x.w0,x.H0⟩ Hs ((tl,.blk l (O .ready none))::(tD,.blk dB (.deferred (some [])))::σ) (jB 0 (.func (.yield l) #[] #[]::cap))
   (W P none cd (Rt P fnc fun e w=>∃ v,e=.returned v∧J l dB O w) (Rt P fnc fun e w=>∃ v,e=.returned v∧J l dB O w) [] (fun _ _ _=>False)))
  (h2:∀ l dB O tm a w,OH O tm ps asg body→bQ (mk1 dB::x.D) x.k a L→J l dB O w→EL P none l n rt e p a w):TG x Hs σ L (W P none (.rangeFunc g ps.toArray asg body) n rt e p):=fun a w hS hA=>by
 refine wpIn_rangeFunc fun fn _=>?_;obtain ⟨O,hO⟩:∃ O:LoopState→Option Code→Obj,∀ s q,O s q=LR fn a.tmps ps.toArray asg body w.heap.size s q:=⟨_,fun _ _=>rfl⟩;have hR:OH O a.tmps ps asg body:=⟨fn,_,hO⟩;obtain ⟨W1,hW1⟩:∃ W1,(w.alloc (.deferred (some []))).alloc (O .ready none)=W1:=⟨_,rfl⟩;refine ⟨w.heap.size+1,[mk1 w.heap.size],W1,⟨.fn (.func f) cap.toArray,#[.func (.yield (w.heap.size+1)) #[] #[]]⟩,W1,f,(.func (.yield (w.heap.size+1)) #[] #[]::cap).toArray,W1,by rw [← hW1,hO];exact run_enterLoop_outer fn a.tmps ps.toArray asg body,?_,?_,?_,?_,?_⟩
 ·simp only [resolve,hA.eval hg];simp [go_sem,Deferred.ofValue]
 ·intro _ _;trivial
 ·simp [invoke,hcall]
 ·intro h;simp [FW] at h
 have hS1:=hS.add (gP.alloc _ w (.deferred (some []))) tD (x:=.blk w.heap.size (.deferred (some []))) (dQ w _) (fun b hb=>by simp [aP.foot] at hb;omega);have hS2:=hS1.add (gP.alloc _ _ (O .ready none)) tl (x:=.blk (w.heap.size+1) (O .ready none)) (by have:=dQ (w.alloc (.deferred (some []))) (O .ready none);simpa [aP.holds] using this) (fun b hb=>by simp [aP.foot] at hb;simp;omega);have hT:bQ [] x.k ⟨a.tmps,[]⟩ L:=⟨rfl,hA.size,hA.get⟩;rw [hW1] at hS2
 have hc:Calls P f (.func (.yield (w.heap.size+1)) #[] #[]::cap).toArray W1 (fun e' w'=>∃ v,e'=.returned v∧J (w.heap.size+1) w.heap.size O w') :=
  enter hfn hb hn (by simpa using hl) fun a' hA'=>qB (fun _ _ h=>h) (fun _ _ h=>h) (fun _ K _ _ hK h=>⟨K,hK,h⟩) (fun _ _ _ h=>h.elim) (h1 _ _ O a.tmps hT hR a' _ hS2 hA')
 refine (JS hc).mono ?_;rintro e' w' ⟨v,rfl,hJ⟩;have hA2:bQ (mk1 w.heap.size::x.D) x.k { a with defers:=[mk1 w.heap.size]++a.defers } L:=⟨by simp [hA.defers],hA.size,hA.get⟩;exact h2 _ _ O a.tmps _ w' hR hA2 hJ
theorem oP:∀ (σ:aM) (t:Nat) (y:aP),eC (dP σ t y) t=eC σ t
 | [],_,_=>rfl
 | (i,z)::σ,t,y=>by
  by_cases e:i=t
  ·subst e;simp [dP,eC]
  simp only [dP,eC,dW e,cond_false,oP σ t y]
theorem WF (t:Nat) {l:Nat} {O:LoopState→Option Code→Obj} {tm:Array Value} {ps:List Tmp} {asg body:Code} (hO:OH O tm ps asg body) (hσ:cJ σ t=some (.blk l (O .ready none))) (h:TG x Hs (eC σ t) L n):TG x Hs σ L (EL P r l n rt e p):=fun a w hS hA=>by
 have hb:w.heap[l]?=some (O .ready none):=hS.get hσ;obtain ⟨fn,dB,hO⟩:=hO;rw [hO] at hb;exact ⟨_,_,run_endLoop hb (by simp),h a _ (by have:=(St.put (o':=LR fn tm ps.toArray asg body dB .exhausted none) hS hσ).del t;rwa [oP] at this) hA⟩
theorem elC (t:Nat) {l:Nat} {O:LoopState→Option Code→Obj} {tm:Array Value} {ps:List Tmp} {asg body:Code} {c:Code} (hO:OH O tm ps asg body) (hσ:cJ σ t=some (.blk l (O .done (some c)))) (h:TG x Hs (eC σ t) L (W P r c n rt e p)):TG x Hs σ L (EL P r l n rt e p):=fun a w hS hA=>by
 have hb:w.heap[l]?=some (O .done (some c)):=hS.get hσ;obtain ⟨fn,dB,hO⟩:=hO;rw [hO] at hb;exact ⟨_,_,run_endLoop hb (by simp),h a _ (by have:=(St.put (o':=LR fn tm ps.toArray asg body dB .exhausted (some c)) hS hσ).del t;rwa [oP] at this) hA⟩
def BR (P:Program) (l:Nat) (N:aV):aV:=fun a w=>∃ w',(Instr.beginRound l).run P w=.ok () w'∧N a w'
def RE (P:Program) (l:Nat) (J:Value→World→Prop) (jump:Option Code):aV:=fun _ w=>∃ v w',(Instr.endRound l jump).run P w=.ok v w'∧J v w'
theorem bR (t:Nat) {l:Nat} {O:LoopState→Option Code→Obj} {tm:Array Value} {ps:List Tmp} {asg body:Code} (hO:OH O tm ps asg body) (hσ:cJ σ t=some (.blk l (O .ready none))) (h:TG x Hs (dP σ t (.blk l (O .busy none))) L N):TG x Hs σ L (BR P l N):=fun a w hS hA=>by
 have hb:w.heap[l]?=some (O .ready none):=hS.get hσ;obtain ⟨fn,dB,hO⟩:=hO;rw [hO] at hb;exact ⟨_,run_beginRound hb rfl,h a _ (by have:=St.put (o':=O .busy none) hS hσ;rw [hO] at this ⊢;exact this) hA⟩
theorem eR (t:Nat) {l:Nat} {O:LoopState→Option Code→Obj} {tm:Array Value} {ps:List Tmp} {asg body:Code} {J:Value→World→Prop} (jump:Option Code) (hO:OH O tm ps asg body) (hσ:cJ σ t=some (.blk l (O .busy none)))
  (h:∀ w,St x.M x.w0 x.H0 Hs (dP σ t (.blk l (O (if jump.isNone then .ready else .done) jump))) w→J (.bool jump.isNone) w):TG x Hs σ L (RE P l J jump):=fun a w hS hA=>by
 have hb:w.heap[l]?=some (O .busy none):=hS.get hσ;obtain ⟨fn,dB,hO⟩:=hO;rw [hO] at hb;exact ⟨_,_,run_endRound jump hb,h _ (by have:=St.put (o':=O (if jump.isNone then .ready else .done) jump) hS hσ;rw [hO] at this ⊢;exact this)⟩
theorem wT {ps:List Tmp} {vs:List Value} {k:Nat}:∀ {tm:Array Value} {L:cB},bQ [] k ⟨tm,[]⟩ L→(ps.all fun t=>Nat.blt t k)=true→bQ [] k ⟨(ps.zip vs).foldl (fun t (q,v)=>t.setIfInBounds q v) tm,[]⟩ ((ps.zip vs).reverse++L):=by
 intro tm L hT hp
 induction ps generalizing vs tm L with
 | nil=>exact hT
 | cons q ps ih =>
  cases vs with
  | nil=>exact hT
  | cons v vs =>
   simp only [List.all_cons,Bool.and_eq_true] at hp;have h1:bQ [] k ⟨tm.setIfInBounds q v,[]⟩ ((q,v)::L):=by have:=hT.put (d:=q) hp.1 v;simpa [Act.put] using this
   have:=ih (vs:=vs) h1 hp.2;simpa using this
theorem zA {F:Nat→aV} {id:Nat} {K:aV}:∀ (ids:List Nat),uD (ids.map fun i=>(i,F i)) id=some K→K=F id
 | [],h=>by simp [uD] at h
 | i::ids,h=>by
  simp only [List.map_cons,uD] at h;by_cases e:i=id
  ·subst e;simp at h;exact h.symm
  rw [dW e] at h;exact zA ids h
theorem JT {ops:Array Oper} {rest:List Oper} {o:Oper} {l:Nat} {f:FuncId} {tm:Array Value} {asg body:Code} {J:Value→World→Prop} {a:Act} {w:World} (ids:List Nat) (hg:o.guard=none) (hd:∀ c,o.op≠.defer c) (hr:(execOp a.eval o).run P w=.ok (.round l f tm asg body) w)
  (h:W P (some l) asg (BR P l (W P (some l) body (RE P l J none) (RE P l J (some .ret)) (ids.map fun i=>(i,RE P l J (some (.exit i)))) (fun _ _ _=>False))) (fun _ _=>False) [] (fun _ _ _=>False) ⟨tm,[]⟩ w)
  (h2:∀ v w',J v w'→O P r ops n p rest (a.put o.dst v) w'):O P r ops n p (o::rest) a w:=by
 simp only [O,Region.wanted,hg,if_true];refine ⟨fun _ _=>trivial,?_⟩;rw [Oper.semAt_eq _ _ _ hd,hr];refine ⟨fun h=>by simp [FW] at h,?_⟩;have hRI:RoundIn (FW r) (0-1) P l f tm asg body w (fun e w'=>∃ v,e=.returned v∧J v w'):=by
  refine roundIn_of_wpIn trivial (wpIn_mono h ?_);intro z a1 w1 hz
  cases z with
  | normal =>
   obtain ⟨w2,hb,hB⟩:=hz;refine ⟨w2,hb,wpIn_mono hB ?_⟩;intro z a w hz
   cases z with
   | normal=>obtain ⟨v,w',h1,h2⟩:=hz;exact ⟨v,w',h1,v,rfl,h2⟩
   | ret=>obtain ⟨v,w',h1,h2⟩:=hz;exact ⟨v,w',h1,v,rfl,h2⟩
   | exit id =>
    obtain ⟨K,hK,hz⟩:=hz;have:K=RE P l J (some (.exit id)):=by
     exact zA (F:=fun i=>RE P l J (some (.exit i))) ids hK
    subst this;obtain ⟨v,w',h1,h2⟩:=hz;exact ⟨v,w',h1,v,rfl,h2⟩
   | panic c=>exact hz.elim
   | goto l=>exact hz.elim
   | outgrown=>exact hz.elim
  | ret=>exact hz.elim
  | exit id=>obtain ⟨K,hK,_⟩:=hz;simp [uD] at hK
  | panic c=>exact hz.elim
  | goto l=>exact hz.elim
  | outgrown=>exact hz.elim
 refine hRI.mono ?_;rintro e' w' ⟨v,rfl,hJ⟩;exact h2 v w' hJ
theorem AO {x:Operand} {xs:List Operand} {ats:Array TypeId} {l:Nat} {vs:List Value} {dst:Option Nat} {gd:Option (Nat×Bool)} {ty:TypeId} {pos:String} {af:Array Edge} {a:Act} {w:World} {D:List Deferred} {k:Nat} {rec:Loop} (hA:bQ D k a L) (hf:ev L x=some (.func (.yield l) #[] #[])) (hxs:mD L xs=some vs)
  (h:w.heap[l]?=some (.loop rec)) (hs:vs.length=rec.params.size) :
  (execOp a.eval ⟨dst,.call ⟨.value x,xs.toArray,ats⟩,ty,pos,af,gd⟩).run P w=.ok (.round l rec.fn ((rec.params.zip vs.toArray).foldl (fun tmps (t,a)=>tmps.setIfInBounds t a) rec.tmps) rec.assign rec.body) w:=by
 have:=mX hA hxs;have hy:=run_yield (P:=P) (args:=vs.toArray) h (by simpa using hs);simp [execOp,resolve,hA.eval hf,Deferred.ofValue,invoke,this,hy]
theorem yl {y:Operand} {xs:List Operand} {ats:Array TypeId} {vs:List Value} {dst:Option Nat} {ty:TypeId} {pos:String} {af:Array Edge} {ops:Array Oper} {rest:List Oper} (t:Nat) {l:Nat} {Oj:LoopState→Option Code→Obj} {tm:Array Value} {ps:List Tmp} {asg body:Code} {k':Nat} {L' L1:cB} (ids:List Nat)
  (hy:ev L y=some (.func (.yield l) #[] #[])) (hxs:mD L xs=some vs) (hσ:cJ σ t=some (.blk l (Oj .ready none))) (hT:bQ [] k' ⟨tm,[]⟩ L') (hO:OH Oj tm ps asg body) (hlen:vs.length=ps.length) (hps:(ps.all fun t=>Nat.blt t k')=true) (hL:(ps.zip vs).reverse++L'=L1) (J:Value→World→Prop)
  (h1:TG ⟨[],k',x.M,x.w0,x.H0⟩ Hs σ L1 (W P (some l) asg (BR P l (W P (some l) body (RE P l J none) (RE P l J (some .ret)) (ids.map fun i=>(i,RE P l J (some (.exit i)))) (fun _ _ _=>False))) (fun _ _=>False) [] (fun _ _ _=>False)))
  (h2:∀ a w v,bQ x.D x.k a L→J v w→O P r ops n p rest (a.put dst v) w):OG P r ops n p x Hs σ L (⟨dst,.call ⟨.value y,xs.toArray,ats⟩,ty,pos,af,none⟩::rest):=fun a w hS hA=>by
 subst hL;have hb:w.heap[l]?=some (Oj .ready none):=hS.get hσ;obtain ⟨fn,dB,hO⟩:=hO;rw [hO] at hb;refine JT (J:=J) ids rfl (fun _ h=>by cases h) (AO hA hy hxs hb (by simpa using hlen)) ?_ (fun v w' hJ=>h2 a w' v hA hJ);have:=h1 _ w hS (wT (vs:=vs) hT hps);simpa using this
theorem WG {y:Operand} {xs:List Operand} {ats:Array TypeId} {f:FuncId} {fnc:Func} {cd:Code} {nt:Nat} {first cap:List Value} {vs args:List Value} {dst:Option Nat} {ty:TypeId} {pos:String} {af:Array Edge} {ops:Array Oper} {rest:List Oper} (hcall:∀ args w,(callFunc f args).run P w=.ok (.enter f args) w) (hfn:P.funcs[f]?=some fnc) (hb:fnc.body=some cd) (hn:fnc.ntmps=nt) (hf:ev L y=some (.func (.func f) first.toArray cap.toArray)) (hxs:mD L xs=some vs) (hargs:first++vs++cap=args) (hl:Nat.ble args.length nt=true)
  (h1:TG ⟨[],nt,x.M,x.w0,x.H0⟩ Hs σ (jB 0 args) (W P none cd (Rt P fnc fun e w=>∃ v,e=.returned v∧∀ a,bQ x.D x.k a L→O P r ops n p rest (a.put dst v) w) (Rt P fnc fun e w=>∃ v,e=.returned v∧∀ a,bQ x.D x.k a L→O P r ops n p rest (a.put dst v) w) [] (fun _ _ _=>False))) :
  OG P r ops n p x Hs σ L (⟨dst,.call ⟨.value y,xs.toArray,ats⟩,ty,pos,af,none⟩::rest) :=
 wP hcall hfn hb hn hf hxs hargs hl (fun v w=>∀ a,bQ x.D x.k a L→O P r ops n p rest (a.put dst v) w) h1 fun a w v hA hJ=>hJ a hA
end
end Pk
namespace Pk
open Go Go.RowKit
def WH (v:Value):Prop:=v=.nilIface∨∃ te pe,v=.iface te pe
def Er (v:Value) (b:Bool):Prop:=(b=false∧v=.nilIface)∨(b=true∧∃ t u,v=.iface t u)
structure Gl (M:Prop) (gS gR gT:Nat) (H:Hp):Prop where
 nq:¬M
 syn:∃ ev,aN H ⟨gS,0,none⟩ [ev]∧WH ev
 rng:∃ ev,aN H ⟨gR,0,none⟩ [ev]∧WH ev
 tab:∃ t z,H gT=some (.cells (Lib.pow10Tab.map fun i=>Value.int .u64 i).toArray t z)
theorem Gl.mono {M:Prop} {gS gR gT:Nat} {H K:Hp} (h:Gl M gS gR gT H) (hk:H.le K):Gl M gS gR gT K:=by
 obtain ⟨hn,⟨a,h1,h2⟩,⟨b,h3,h4⟩,⟨t,z,h5⟩⟩:=h;exact ⟨hn,⟨a,h1.mono hk,h2⟩,⟨b,h3.mono hk,h4⟩,⟨t,z,hk _ _ h5⟩⟩
theorem sQ {w:World} {H:Hp} {g:Nat} {v:Value} (hH:H.le (hp w)) (h:aN H ⟨g,0,none⟩ [v]):w.cell? ⟨g,0,none⟩=some v:=by
 obtain ⟨_,h⟩:=h;obtain ⟨cs,t,z,h1,h2⟩:=h 0 v rfl;have:=hH _ _ h1;simp [World.cell?,show w.heap[g]?=_ from this];simpa using h2
theorem DD {P:Program} {w:World} {H:Hp} {g:Nat} {nm:String} (hn:P.globalNamed nm=some g) (hH:H.le (hp w)) (h:∃ t z,H g=some (.cells (Lib.pow10Tab.map fun i=>Value.int .u64 i).toArray t z)):Lib.TabIs P w nm .u64 Lib.pow10Tab:=by
 obtain ⟨t,z,h⟩:=h;have:=hH _ _ h;simp [Lib.TabIs,World.var?,hn,show w.heap[g]?=_ from this]
theorem gP.of_below {M:Prop} {w w':World} (hM:¬M) (h:Below w.heap.size w w'):gP M w w':=⟨h.os,h.tape,h.output,h.size,fun b hb=>h.block b hb,fun q=>absurd q hM⟩
def kW (s:aE):Int×Bool:=match Lib.atoiAll s with
 | .ok v=>(v,false)
 | .range=>(Lib.atoiSat s,true)
 | _=>(0,true)
noncomputable def DE (s:aE):Option (Int×Bool):=cA (s.length≤1073741824) (some (kW s))
noncomputable def zB (n:Int):Option aE:=cA (-9223372036854775808≤n∧n≤9223372036854775807) (some (Lib.itoa n))
section
variable {P:Program} {r:Option Nat} {n:aV} {p:List PanicEntry→aV} {ops:Array Oper} {rest:List Oper} {d:Nat} {ty:TypeId} {pos:String} {af:Array Edge} {x:Fr} {Hs:List Hp} {σ:aM} {L:cB}
theorem eqE {y:Operand} {t u:TypeId} {v:Value} {b:Bool} {ms:_} (hu':P.underlying t=some (.interface ms)) (hd:Nat.blt d x.k=true) (hy:ev L y=some v) (hb:Er v b) (h:OG P r ops n p x Hs σ ((d,.bool (!b))::L) rest):OG P r ops n p x Hs σ L (⟨some d,.binOp .eql t y (.const .nilIface) u,ty,pos,af,none⟩::rest):=fun a w hS hA=>by
 have hu:P.underlying t=some (.interface (P.methodsAt t)):=by rw [hu'];simp [Program.methodsAt,hu']
 refine cQ rfl (fun _ h=>by cases h) (w':=w) (v:=.bool (!b)) ?_ (h _ w hS (hA.put hd _));rcases hb with ⟨rfl,rfl⟩|⟨rfl,te,pe,rfl⟩ <;> simp [execOp,hA.eval hy,show a.eval (.const .nilIface)=.nilIface from rfl,eqGuard,run_neq_nil_nil w t hu,run_neq_held_nil w t _ _ hu,run_eql_nil_nil w t hu,run_eql_held_nil w t _ _ hu,Result.andThen]
end
def iW {α:Type} (f:α→α→Option Int) (x y:α):Bool:=match f x y with
 | some c=>decide (c<0)
 | none=>false
structure kR {α:Type} (f:α→α→Option Int) (l:List α):Prop where
 small:l.length≤1073741824
 some_:∀ x∈l,∀ y∈l,∃ c,f x y=some c
 irr:∀ x∈l,iW f x x=false
 tr:∀ x∈l,∀ y∈l,∀ z∈l,iW f x y=true→iW f y z=true→iW f x z=true
 tot:∀ x∈l,∀ y∈l,iW f x y=false→iW f y x=false→x=y
section
variable {α:Type}
theorem WI {f:α→α→Option Int} {l l':List α} (hok:kR f l) (hp:l'.Perm l) (hs:l'.Pairwise fun x y=>iW f y x=false):(l.mergeSort fun x y=>!iW f y x)=l':=by
 have hmap:(l.attach.mergeSort fun a b=>!iW f b.1 a.1).map (·.1)=l.mergeSort fun x y=>!iW f y x:=by
  rw [List.map_mergeSort (s:=fun x y=>!iW f y x) (fun a _ b _=>rfl)];congr 1;exact List.attach_map_subtype_val l
 have hpw:(l.attach.mergeSort fun a b=>!iW f b.1 a.1).Pairwise (fun a b=>(!iW f b.1 a.1)=true):=by
  refine List.pairwise_mergeSort (fun a b c h1 h2=>?_) (fun a b=>?_) _
  ·simp only [Bool.not_eq_true'] at *
   cases h3:iW f c.1 a.1 with
   | false=>rfl
   | true =>
    exfalso
    cases h4:iW f a.1 b.1 with
    | true=>rw [hok.tr _ c.2 _ a.2 _ b.2 h3 h4] at h2;cases h2
    | false =>
     have e:=hok.tot _ a.2 _ b.2 h4 h1;rw [← e] at h2;rw [h2] at h3;cases h3
  simp only [Bool.or_eq_true,Bool.not_eq_true']
  cases h3:iW f b.1 a.1 with
  | false=>exact .inl rfl
  | true =>
   right
   cases h4:iW f a.1 b.1 with
   | false=>rfl
   | true=>have:=hok.tr _ a.2 _ b.2 _ a.2 h4 h3;rw [hok.irr _ a.2] at this;cases this
 have hpw':(l.mergeSort fun x y=>!iW f y x).Pairwise (fun x y=>(!iW f y x)=true):=by
  rw [← hmap,List.pairwise_map];exact hpw
 refine List.Perm.eq_of_pairwise (le:=fun x y=>(!iW f y x)=true) ?_ hpw' ?_ ((List.mergeSort_perm _ _).trans hp.symm)
 ·intro x y hx hy h1 h2;have hx':x∈l:=(List.mergeSort_perm _ _).subset hx;have hy':y∈l:=hp.subset hy;simp only [Bool.not_eq_true'] at h1 h2;exact hok.tot _ hx' _ hy' h2 h1
 exact hs.imp fun h=>by simpa using h
def JU (f:α→α→Option Int) (x:α):List α→List α
 | []=>[x]
 | y::l=>if iW f x y then x::y::l else y::JU f x l
def JV (f:α→α→Option Int):List α→List α
 | []=>[]
 | x::l=>JU f x (JV f l)
theorem rX (f:α→α→Option Int) (x:α):∀ l,(JU f x l).Perm (x::l)
 | []=>.refl _
 | y::l=>by
  unfold JU
  split
  ·exact .refl _
  exact ((rX f x l).cons y).trans (.swap x y l)
theorem rY (f:α→α→Option Int):∀ l,(JV f l).Perm l
 | []=>.refl _
 | x::l=>(rX f x _).trans ((rY f l).cons x)
def pwB (f:α→α→Option Int):List α→Bool
 | []=>true
 | x::l=>l.all (fun y=>iW f x y)&&pwB f l
theorem wU {f:α→α→Option Int}:∀ {l:List α},pwB f l=true→l.Pairwise fun x y=>iW f x y=true
 | [],_=>.nil
 | x::l,h=>by
  unfold pwB at h;rw [Bool.and_eq_true,List.all_eq_true] at h;exact .cons h.1 (wU h.2)
def okF (f:α→α→Option Int) (l:List α):Bool:=Nat.ble l.length 1073741824&&l.all fun x=>!iW f x x&&l.all fun y=>(f x y).isSome&&l.all fun z=>!(iW f x y&&iW f y z)||iW f x z
def uN (f:α→α→Option Int) (l:List α):Option (List α):=if okF f l&&pwB f (JV f l) then some (JV f l) else none
theorem OI {R:α→α→Prop}:∀ {l:List α},l.Pairwise R→∀ x∈l,∀ y∈l,x≠y→R x y∨R y x
 | z::l,h,x,hx,y,hy,hne=>by
  obtain ⟨h1,h2⟩:=List.pairwise_cons.1 h;rcases List.mem_cons.1 hx with e|hx'
  ·rcases List.mem_cons.1 hy with e'|hy'
   ·exact absurd (e.trans e'.symm) hne
   rw [e];exact .inl (h1 _ hy')
  rcases List.mem_cons.1 hy with e'|hy'
  ·rw [e'];exact .inr (h1 _ hx')
  exact OI h2 x hx' y hy' hne
theorem uO {f:α→α→Option Int} {l l':List α} (h:uN f l=some l'):kR f l∧(l.mergeSort fun x y=>!iW f y x)=l':=by
 unfold uN at h
 split at h
 ·rename_i hc
  cases h;rw [Bool.and_eq_true] at hc;obtain ⟨ho,hp⟩:=hc;unfold okF at ho;simp only [Bool.and_eq_true,List.all_eq_true,Bool.not_eq_true',Bool.or_eq_true,Bool.and_eq_false_imp] at ho;have hperm:=rY f l
  have hok:kR f l:=⟨Nat.le_of_ble_eq_true ho.1,fun x hx y hy=>Option.isSome_iff_exists.1 ((ho.2 x hx).2 y hy).1,fun x hx=>(ho.2 x hx).1,fun x hx y hy z hz h1 h2=>by
   rcases ((ho.2 x hx).2 y hy).2 z hz with h3|h3
   ·rw [h3 h1] at h2;cases h2
   ·exact h3,fun x hx y hy h1 h2=>by
   refine Classical.byContradiction fun hne=>?_;rcases OI (wU hp) x (hperm.mem_iff.2 hx) y (hperm.mem_iff.2 hy) hne with h3|h3
   ·rw [h1] at h3;cases h3
   rw [h2] at h3;cases h3⟩
  refine ⟨hok,WI hok hperm ((wU hp).imp_of_mem fun {x y} hx hy hxy=>?_)⟩
  cases h3:iW f y x with
  | false=>rfl
  | true =>
   have h4:=hok.tr _ (hperm.mem_iff.1 hx) _ (hperm.mem_iff.1 hy) _ (hperm.mem_iff.1 hx) hxy h3;rw [hok.irr _ (hperm.mem_iff.1 hx)] at h4;cases h4
 cases h
open Classical in
noncomputable def iT (f:α→α→Option Int) (l:List α):Option (List α):=(uN f l).or (if kR f l then some (l.mergeSort fun x y=>!iW f y x) else none)
theorem mN {f:α→α→Option Int} {l l':List α} (h:iT f l=some l'):kR f l∧l.mergeSort (fun x y=>!iW f y x)=l':=by
 unfold iT at h
 cases hF:uN f l with
 | some l2=>rw [hF] at h;cases h;exact uO hF
 | none =>
  rw [hF,Option.none_or] at h
  split at h
  ·exact ⟨‹_›,Option.some.inj h⟩
  cases h
theorem qL {f:α→α→Option Int} {l:List α} (hok:kR f l):iT f l=some (l.mergeSort fun x y=>!iW f y x):=by
 unfold iT
 cases hF:uN f l with
 | some l2=>rw [(uO hF).2];rfl
 | none=>rw [Option.none_or,if_pos hok]
end
theorem jE {α:Type} {f:α→α→Option Int} {l l':List α} (h:iT f l=some l'):l'.length=l.length:=by
 rw [← (mN h).2,List.length_mergeSort]
end Pk
namespace Pk
open Go Go.RowKit Go.ChangeShapes Go.WideShapes
def US (P:Program) (w:World) (t:TypeId) (n:Nat) {α:Type} (R:Hp→List Value→α→Prop) (ok:α→Prop):Prop :=
 P.cellsOf t=n∧∀ {H:Type} (enc:TypeId×Value→H) (base:Nat) (sp:Nat→Bool) (held:Bool) (fuel:Nat) (cs:List Value) (x:DataW H×List MemPlace),DataW.trod enc P w base sp held fuel t cs=some x→cs.length=n∧∃ a,R (hp w) cs a∧ok a
abbrev DG (k:IntKind) (n:Int):Prop:=k.min≤n∧n≤k.max
abbrev okL {α:Type} (ok:α→Prop) (l:List α):Prop:=∀ x∈l,ok x
section
variable {P:Program} {w:World} {t e:TypeId}
theorem DH {α:Type} {R:Hp→List Value→α→Prop} {ok:α→Prop} {ds:TypeDesc} (_hu:P.underlying t=some ds) (hc:P.cellsOf t=1)
  (h0:∀ {H:Type} (enc:TypeId×Value→H) (base:Nat) (sp:Nat→Bool) (held:Bool) (fuel:Nat),DataW.trod enc P w base sp held (fuel+1) t []=none)
  (h2:∀ {H:Type} (enc:TypeId×Value→H) (base:Nat) (sp:Nat→Bool) (held:Bool) (fuel:Nat) (u v:Value) (l:List Value),DataW.trod enc P w base sp held (fuel+1) t (u::v::l)=none)
  (h1:∀ {H:Type} (enc:TypeId×Value→H) (base:Nat) (sp:Nat→Bool) (held:Bool) (fuel:Nat) (v:Value) (x:DataW H×List MemPlace),DataW.trod enc P w base sp held (fuel+1) t [v]=some x→∃ a,R (hp w) [v] a∧ok a):US P w t 1 R ok:=by
 refine ⟨hc,fun {H} enc base sp held fuel cs x h=>?_⟩
 cases fuel with
 | zero=>cases h
 | succ fuel =>
  match cs,h with
  | [],h=>rw [h0] at h;cases h
  | [v],h=>exact ⟨rfl,h1 enc base sp held fuel v x h⟩
  | u::v::l,h=>rw [h2] at h;cases h
theorem DI {k:IntKind} (hu:P.underlying t=some (.int k)) (hc:P.cellsOf t=1):US P w t 1 (aD (bP k)) (DG k):=by
 refine DH hu hc (fun enc base sp held fuel=>by unfold DataW.trod;rw [hu]) (fun enc base sp held fuel u v l=>by unfold DataW.trod;rw [hu];cases u <;> rfl) (fun enc base sp held fuel v x h=>?_);unfold DataW.trod at h;rw [hu] at h;cases v <;> simp at h
 rename_i k' n
 obtain ⟨⟨rfl,hw⟩,_⟩:=h;exact ⟨n,rfl,by simpa [Lit.wf,IntKind.has] using hw⟩
theorem AP (hu:P.underlying t=some .string) (hc:P.cellsOf t=1):US P w t 1 (aD bY) (fun s=>s.length≤maxLen):=by
 refine DH hu hc (fun enc base sp held fuel=>by unfold DataW.trod;rw [hu]) (fun enc base sp held fuel u v l=>by unfold DataW.trod;rw [hu];cases u <;> rfl) (fun enc base sp held fuel v x h=>?_);unfold DataW.trod at h;rw [hu] at h;cases v <;> simp at h
 rename_i s
 refine ⟨s.data.toList,?_,by show s.data.toList.length≤maxLen;rw [Array.length_toList];exact h.1⟩;show _=bY _;simp [bY,bs]
theorem zC {α:Type} {Q:Nat→α→Prop}:∀ (n:Nat),(∀ i,i<n→∃ x,Q i x)→∃ l:List α,l.length=n∧∀ i x,l[i]?=some x→Q i x
 | 0,_=>⟨[],rfl,fun i x h=>by simp at h⟩
 | n+1,h=>by
  obtain ⟨l,h1,h2⟩:=zC n (fun i hi=>h i (by omega));obtain ⟨x,hx⟩:=h n (by omega);refine ⟨l++[x],by simp [h1],fun i y hy=>?_⟩;by_cases hi:i<l.length
  ·rw [List.getElem?_append_left hi] at hy;exact h2 i y hy
  rw [List.getElem?_append_right (by omega)] at hy;have:i-l.length=0:=by
   by_cases c:i-l.length=0
   ·exact c
   rw [List.getElem?_eq_none (by simp;omega)] at hy;cases hy
  rw [this] at hy;simp at hy;subst hy;rw [show i=n by omega];exact hx
theorem sR {α β:Type} {f:α→Option β}:∀ {l:List α} {ys:List β},l.mapM f=some ys→∀ x∈l,∃ y,f x=some y
 | [],_,_,x,hx=>by cases hx
 | a::l,ys,h,x,hx=>by
  simp only [List.mapM_cons,Option.pure_def,Option.bind_eq_bind,Option.bind_eq_some_iff] at h;obtain ⟨y,h1,zs,h2,_⟩:=h;rcases List.mem_cons.1 hx with rfl|hx
  ·exact ⟨y,h1⟩
  exact sR h2 x hx
theorem uP {base:Nat} {a:Addr} {n:Nat} {cs:List Value} (h:w.cells? base a n=some cs) (hn:0<n):aN (hp w) a cs∧cs.length=n:=by
 unfold World.cells? at h
 split at h
 ·have hlen:cs.length=n:=by
   have:∀ (l:List Nat) (ys:List Value),l.mapM (fun i=>w.cell? (a.add i))=some ys→ys.length=l.length:=by
    intro l
    induction l with
    | nil=>intro ys h;simp at h;subst h;rfl
    | cons x l ih =>
     intro ys h;simp only [List.mapM_cons,Option.pure_def,Option.bind_eq_bind,Option.bind_eq_some_iff] at h;obtain ⟨y,_,zs,h2,h3⟩:=h;cases h3;simp [ih _ h2]
   rw [this _ _ h];simp
  have hat:∀ (l:List Nat) (ys:List Value),l.mapM (fun i=>w.cell? (a.add i))=some ys→∀ (j:Nat) (v:Value),ys[j]?=some v→∃ i:Nat,l[j]?=some i∧w.cell? (a.add i)=some v:=by
   intro l
   induction l with
   | nil=>intro ys h j v hj;simp at h;subst h;simp at hj
   | cons x l ih =>
    intro ys h j v hj;simp only [List.mapM_cons,Option.pure_def,Option.bind_eq_bind,Option.bind_eq_some_iff] at h;obtain ⟨y,h1,zs,h2,h3⟩:=h;cases h3
    cases j with
    | zero=>simp at hj;subst hj;exact ⟨x,rfl,h1⟩
    | succ j=>simp at hj;exact ih _ h2 j v hj
  have hij:∀ j i:Nat,(List.range n)[j]?=some i→i=j:=by
   intro j i hi;have hlt:j<n:=by
    have:=(List.getElem?_eq_some_iff.1 hi).1;simpa using this
   rw [List.getElem?_range hlt] at hi;simpa using hi.symm
  have hs:a.spot=none:=by
   obtain ⟨i,hi,hv⟩:=hat _ _ h 0 (cs[0]'(by omega)) (List.getElem?_eq_getElem _);obtain rfl:=hij _ _ hi;have ha:a.add 0=a:=by simp [Addr.add]
   rw [ha] at hv;unfold World.cell? at hv
   split at hv
   ·cases hs:a.spot with
    | none=>rfl
    | some s=>simp [hs] at hv
   cases hv
  refine ⟨⟨hs,fun j v hj=>?_⟩,hlen⟩;obtain ⟨i,hi,hv⟩:=hat _ _ h j v hj;obtain rfl:=hij _ _ hi;rw [eA hs] at hv;unfold World.cell? at hv;simp only at hv
  split at hv
  ·rename_i c ty fz hh
   simp at hv;exact ⟨c,ty,fz,hh,hv⟩
  cases hv
 cases h
theorem uQ {α:Type} {R:Hp→List Value→α→Prop} {ok:α→Prop} {n:Nat} (hu:P.underlying t=some (.slice e)) (hc:P.cellsOf t=1) (hn:0<n) (he:US P w e n R ok):US P w t 1 (tX R n) (okL ok):=by
 refine ⟨hc,fun {H} enc base sp held fuel cs x h=>?_⟩
 cases fuel with
 | zero=>cases h
 | succ fuel =>
  unfold DataW.trod at h;rw [hu] at h
  split at h <;> try (simp_all;done)
  ·exact ⟨rfl,[],⟨none,0,rfl,Sl.nil _ _ _ _ _ (by decide)⟩,fun x hx=>by cases hx⟩
  rename_i e' a len cap he'
  cases he'
  split at h
  ·rename_i hb
   rw [Option.bind_eq_some_iff] at h;obtain ⟨elems,h1,_⟩:=h;rw [he.1] at h1;have hat:∀ i,i<len→∃ z,(∃ cs,w.cells? base (a.add (i*n)) n=some cs∧R (hp w) cs z)∧ok z:=by
    intro i hi;obtain ⟨y,hy⟩:=sR h1 i (List.mem_range.2 hi);rw [Option.bind_eq_some_iff] at hy;obtain ⟨cs,hcs,hy⟩:=hy;obtain ⟨_,z,hz1,hz2⟩:=he.2 enc base sp held fuel cs y hy;exact ⟨z,⟨cs,hcs,hz1⟩,hz2⟩
   obtain ⟨l,hl,hq⟩:=zC len hat;subst hl;refine ⟨rfl,l,⟨some a,cap,rfl,⟨hb.2.1,Nat.le_trans hb.2.2 (by decide)⟩,fun i z hz=>?_⟩,fun z hz=>?_⟩
   ·obtain ⟨⟨cs,h2,h3⟩,_⟩:=hq i z hz;obtain ⟨h4,h5⟩:=uP h2 hn;have hsp:a.spot=none:=by
     obtain ⟨_,⟨cs0,h6,_⟩,_⟩:=hat 0 (by have:=aT hz;omega);have:=(uP h6 hn).1.1;simpa [Addr.add] using this
    exact ⟨a,cs,rfl,hsp,h5,h4,h3⟩
   obtain ⟨i,hi⟩:=List.mem_iff_getElem?.1 hz;exact (hq i z hi).2
  cases h
theorem wV {α:Type} {R:Hp→List Value→α→Prop} {ok:α→Prop} (hr:US P w t 1 R ok) {H:Type} {enc:TypeId×Value→H} {base b0:Nat} {sp:Nat→Bool} {held:Bool} {v:Value} {d:DataW H} {ps:List MemPlace} (hv:Value.okWide P w .any b0 t v) (hns:∀ cs,v≠.agg cs) (h:DataW.Trod enc P w base sp held t v d ps):∃ a,R (hp w) [v] a∧ok a:=by
 obtain ⟨fuel,h⟩:=h;obtain ⟨_,a,h1,h2⟩:=hr.2 enc base sp held fuel _ _ h;have:v.cells.toList=[v]:=by
  cases v <;> first|rfl|exact absurd rfl (hns _)
 rw [this] at h1;exact ⟨a,h1,h2⟩
theorem nsl (hu:P.underlying t=some (.slice e)) {b0:Nat} {v:Value} (hv:Value.okWide P w .any b0 t v):∀ cs,v≠.agg cs:=by
 rintro cs rfl;unfold Value.okWide at hv;rw [hu] at hv;simp only [Cell.okWide,hu,Cell.ok] at hv
theorem aCj {k:IntKind} (hu:P.underlying t=some (.int k)) {b0:Nat} {v:Value} (hv:Value.okWide P w .any b0 t v):∀ cs,v≠.agg cs:=by
 rintro cs rfl;unfold Value.okWide at hv;rw [hu] at hv;simp only [Cell.okWide,hu,Cell.ok] at hv
end
section
variable {H:Type} {enc:TypeId×Value→H} {P:Program}
theorem mH (hl:laidOutB P=true) {W W':World} {sp:Nat→Bool} (hb:Below W.heap.size W W'):∀ {ts:List TypeId} {vs:List Value} {ds:List (DataW H)} {ps:List MemPlace},(∀ t∈ts,P.readableRec t=true∧t<P.types.size)→DataW.TrodAll enc P W 0 (fun _=>true) true ts vs ds ps→(∀ x∈ps,x.block<W.heap.size)→(∀ x∈ps,sp x.block=true)→DataW.TrodAll enc P W' 0 sp true ts vs ds ps
 | [],_,_,_,_,h,_,_=>by
  obtain ⟨rfl,rfl,rfl⟩:=trodAll_nil h;exact rfl
 | t::ts,_,_,_,hr,h,hlt,hs=>by
  obtain ⟨v,vs,d,ds,p,q,rfl,rfl,rfl,h1,h2⟩:=trodAll_cons h;have ht:=hr t List.mem_cons_self
  exact ⟨p,q,WideElems.Trod_stays hl ht.1 ht.2 h1 (fun x hx=>hb.same (hlt x (List.mem_append_left _ hx))) (fun x hx=>hs x (List.mem_append_left _ hx)),
   mH hl hb (fun u hu=>hr u (List.mem_cons_of_mem _ hu)) h2 (fun x hx=>hlt x (List.mem_append_right _ hx)) (fun x hx=>hs x (List.mem_append_right _ hx)),rfl⟩
theorem AQ {M:Prop} {w w':World} (h:gP M w w'):Below w.heap.size w w':=⟨h.os,h.tape,h.output,h.size,fun b hb=>h.keep b hb⟩
theorem JW {M:Prop} {w w':World} (h:gP M w w') (may:MemPlace→Prop):w.keptBut w' may:=by
 refine ⟨h.os,h.output,fun i hi=>?_⟩;rw [h.keep i hi]
 cases w.heap[i]? with
 | none=>trivial
 | some o=>cases o <;> first|rfl|exact ⟨rfl,rfl,rfl,fun _ _=>rfl⟩|exact .inr ⟨rfl,rfl⟩
theorem DJ {f:Func} {s:ChangeSpec} {apart fresh handsOn again:Bool} {W W':World} {args:Array Value} {ds gs:List (DataW H)} {before:List MemPlace} {tb:TypeId}
  (hW:DataW.Whole enc P f.params.toList s.vars apart W args.toList ds gs before) (hv:s.vars=[]) (hl:laidOutB P=true) (hr:∀ t∈f.params.toList,P.readableRec t=true∧t<P.types.size)
  (hs:s.fn H ds={ results:=[.lit (.bool true)],args:=ds }) (hrt:f.resultTypes = #[tb]) (hb:P.underlying tb=some .bool) {M:Prop} (hE:gP M W W'):s.post enc P f apart fresh handsOn again W args (.bool true) W':=by
 have hB:=AQ hE;have hlt:∀ x∈before,x.block<W.heap.size:=fun x hx=>by simpa using hW.lt x hx
 have hold:∀ p∈before,(fun b=>decide (b<W.heap.size)) p.block=true:=fun p hp=>by simpa using hlt p hp
 have hW0:=hW;obtain ⟨p,q,hA,hV,rfl,hz,hn⟩:=hW;rw [hv] at hV;obtain ⟨rfl,rfl⟩:=trodVars_none hV;rw [List.append_nil] at *;have hfn:s.fn H (ds++[])={ results:=[.lit (.bool true)],args:=ds }:=by rw [List.append_nil];exact hs
 have hargs:∀ sp:Nat→Bool,(∀ x∈p,sp x.block=true)→DataW.TrodAll enc P W' 0 sp true f.params.toList args.toList ds p:=fun sp h=>mH hl hB hr hA hlt h;have hres:∀ (b:Nat) (sp:Nat→Bool) (hd:Bool),DataW.TrodAll enc P W' b sp hd f.resultTypes.toList ((Value.bool true).resultList f.resultTypes.size) [.lit (.bool true)] []:=fun b sp hd=>by
  rw [hrt];exact trodAll_mk1 (shut_bool hb _)
 have hvars:∀ sp:Nat→Bool,DataW.TrodVars enc P W' sp s.vars [] []:=fun sp=>by rw [hv];rfl
 refine ⟨ds,[],p,[],p,[],by simpa using hW0,by rw [hfn];exact hres _ _ _,by rw [hfn];exact hargs _ hold,by rw [hfn];exact hvars _,World.keptBut_mono (fun x hx=>⟨hx,by simpa using hx⟩) (JW hE _),fun _=>?_⟩;refine ⟨ok_one hrt rfl (okWide_bool_mk hb _),_,_,([]++p)++[],⟨[]++p,[],trodAll_append (hargs _ (fun _ _=>rfl)) (hres _ _ _),hvars _,rfl,?_,?_⟩,?_⟩
 ·intro b off hp;have hp':MemPlace.cell b off∈p:=by simpa using hp
  have hb':b<W.heap.size:=hlt _ hp';have:W'.frozen? ⟨b,off,none⟩=W.frozen? ⟨b,off,none⟩:=by
   unfold World.frozen?;rw [hE.keep b hb']
  rw [this];exact hz b off hp'
 ·intro ha;have:=hn ha;simpa using this
 intro x hx _;simpa using hx
end
section
variable {H:Type} {enc:TypeId×Value→H} {P:Program} {w:World} {t e:TypeId} {base:Nat} {sp:Nat→Bool} {held:Bool} {fuel:Nat} {cs:List Value}
theorem uR {ms:Array (String×TypeId)} {x:DataW H×List MemPlace} (hu:P.underlying t=some (.interface ms)) (h:DataW.trod enc P w base sp held fuel t cs=some x):∃ v,cs=[v]∧WH v:=by
 cases fuel with
 | zero=>cases h
 | succ fuel =>
  unfold DataW.trod at h;rw [hu] at h
  match cs,h with
  | [],h=>cases h
  | [.nilIface],_=>exact ⟨_,rfl,.inl rfl⟩
  | [.iface u v],_=>exact ⟨_,rfl,.inr ⟨_,_,rfl⟩⟩
  | u::v::l,h=>cases u <;> simp at h
  | [.bool _],h | [.int _ _],h | [.float _ _],h | [.complex _ _ _],h | [.string _],h | [.pointer _],h | [.slice _ _ _],h | [.agg _],h | [.tuple _],h | [.map _],h | [.chan _],h | [.func _ _ _],h | [.nilFunc],h=>simp at h
theorem rZ {n:String} {g:Nat} {cs:Array Value} (hg:P.globalNamed n=some g) (hv:w.var? P n=some cs):∃ t z,hp w g=some (.cells cs t z):=by
 unfold World.var? at hv;rw [hg,Option.bind_some] at hv
 split at hv
 ·rename_i c t z hh
  cases hv;exact ⟨t,z,hh⟩
 cases hv
theorem zD {n:String} {g:Nat} {cs:Array Value} {v:Value} (hg:P.globalNamed n=some g) (hv:w.var? P n=some cs) (hc:cs.toList=[v]):aN (hp w) ⟨g,0,none⟩ [v]:=by
 obtain ⟨t,z,h⟩:=rZ hg hv;refine ⟨rfl,fun j u hu=>⟨cs,t,z,h,?_⟩⟩;rw [← hc] at hu;simpa using hu
theorem uU {α β:Type} {f:α→Option β}:∀ {l:List α} {ys:List β},l.mapM f=some ys→∀ i:Nat,(l[i]?).bind f=ys[i]?
 | [],ys,h,i=>by simp at h;subst h;simp
 | a::l,ys,h,i=>by
  simp only [List.mapM_cons,Option.pure_def,Option.bind_eq_bind,Option.bind_eq_some_iff] at h;obtain ⟨y,h1,zs,h2,h3⟩:=h;cases h3
  cases i with
  | zero=>simpa using h1
  | succ i=>simpa using uU h2 i
theorem QK {k:IntKind} {n:Nat} {zs:List Int} {ps:List MemPlace} (hu:P.underlying t=some (.array n e)) (he:P.underlying e=some (.int k)) (hc:P.cellsOf e=1) (ht:P.cellsOf t=n) (h:DataW.trod enc P w base sp held fuel t cs=some (.agg (zs.map fun z=>.lit (.int k z)),ps)):cs=zs.map fun z=>Value.int k z:=by
 cases fuel with
 | zero=>cases h
 | succ fuel =>
  unfold DataW.trod at h;rw [hu] at h;simp only at h
  split at h
  ·rename_i hl
   rw [Option.map_eq_some_iff] at h;obtain ⟨xs,h1,h2⟩:=h;simp only [Prod.mk.injEq,DataW.agg.injEq] at h2;have hx:=h2.1;rw [hc] at h1;apply List.ext_getElem?;intro i;have hi:=uU h1 i;by_cases hin:i<n
   ·rw [List.getElem?_range hin,Option.bind_some] at hi;have hlt:i<cs.length:=by omega
    have e1:(cs.drop (i*1)).take 1=[cs[i]]:=by rw [Nat.mul_one,List.drop_eq_getElem_cons hlt,List.take_succ_cons,List.take_zero]
    rw [e1] at hi;have hxi:xs[i]?≠none:=by
     intro hn;obtain ⟨y,hy⟩:=sR h1 i (List.mem_range.2 hin);rw [e1,hi,hn] at hy;cases hy
    cases hxs:xs[i]? with
    | none=>exact absurd hxs hxi
    | some y =>
     rw [hxs] at hi;have hz:(zs.map fun z=>(DataW.lit (.int k z):DataW H))[i]?=some y.1:=by rw [← hx];simp [hxs]
     cases fuel with
     | zero=>cases hi
     | succ fuel =>
      unfold DataW.trod at hi;rw [he] at hi;rw [List.getElem?_eq_getElem hlt];cases hv:cs[i] <;> rw [hv] at hi <;> simp at hi
      rename_i k' m
      obtain ⟨⟨rfl,_⟩,rfl⟩:=hi;simp only [List.getElem?_map,Option.map_eq_some_iff] at hz ⊢;obtain ⟨z,hz1,hz2⟩:=hz;cases hz2;simp [hz1]
   have:xs[i]?=none:=by
    rw [← hi,List.getElem?_eq_none (by simp;omega)];rfl
   have hz:(zs.map fun z=>(DataW.lit (.int k z):DataW H))[i]?=none:=by rw [← hx];simp [this]
   rw [List.getElem?_eq_none (show cs.length≤i by omega)];rw [List.getElem?_eq_none_iff,List.length_map] at hz
   symm
   rw [List.getElem?_eq_none_iff,List.length_map];exact hz
  cases h
theorem WJ {gS gR gT:Nat} {nS nR nT:String} {cS cR cT:Array Value} {vS vR:Value} (h1:P.globalNamed nS=some gS) (h2:w.var? P nS=some cS) (h3:cS.toList=[vS]) (h4:WH vS) (h5:P.globalNamed nR=some gR) (h6:w.var? P nR=some cR) (h7:cR.toList=[vR]) (h8:WH vR)
  (h9:P.globalNamed nT=some gT) (h0:w.var? P nT=some cT) (hA:cT.toList=Lib.pow10Tab.map fun z=>Value.int .u64 z):Gl False gS gR gT (hp w):=by
 refine ⟨not_false,⟨vS,zD h1 h2 h3,h4⟩,⟨vR,zD h5 h6 h7,h8⟩,?_⟩;obtain ⟨t,z,h⟩:=rZ h9 h0;have:cT=(Lib.pow10Tab.map fun z=>Value.int .u64 z).toArray:=by rw [← hA]
 exact ⟨t,z,by rw [← this];exact h⟩
end
end Pk
namespace Pk
open Go Go.Proofs
def JX (P:Program) (f k:Nat):Prop :=
 (∀ p cap fv w,Calls P f #[.slice p 0 cap,fv] w fun e w'=>e=.returned (.tuple #[])∧w'=w) ∧
 ∀ (α:Type) (_:Inhabited α) (enc:α→List Value) (_:∀ x,(enc x).length=k) (_:∀ x,∀ v∈enc x,v.oneCell'=true) (cf:α→α→Int) (_:Sort.SWO (ltOf cf)) (g:Nat) (cb:Array Value) (blk off cap:Nat) (d:Array α) (w:World),
  (∀ args w,(callFunc g args).run P w=.ok (.enter g args) w)→CmpLays P g cb enc k cf blk off d.size w→Sort.HoldsK enc k w blk off d→blk<w.heap.size→d.size<4611686018427387904→(∀ x y,(ltOf cf) x y=false→(ltOf cf) y x=false→x=y) →
  Calls P f #[.slice (some ⟨blk,off,none⟩) d.size cap,.func (.func g) #[] cb] w fun e w'=>e=.returned (.tuple #[])∧∃ n os,w'=sortWorldK enc k w blk off n (d.toList.mergeSort fun x y=>!(ltOf cf) y x).toArray os
theorem DK {M:Prop} {w w':World} (q:M) (h:gP M w w'):∃ n os,w'=Sort.grow (w.drewN n) os:=by
 refine ⟨w'.drawn-w.drawn,w'.heap.extract w.heap.size,?_⟩;have hd:=h.drawn q;have hh:w'.heap=w.heap++w'.heap.extract w.heap.size:=by
  have hs:=h.size;refine Array.ext_getElem? fun i=>?_;by_cases hi:i<w.heap.size
  ·rw [Array.getElem?_append_left hi];exact h.keep i hi
  rw [Array.getElem?_append_right (by omega),Array.getElem?_extract];by_cases h2:i<w'.heap.size
  ·rw [if_pos (by omega)];congr 1;omega
  rw [if_neg (by omega)];exact Array.getElem?_eq_none (by omega)
 obtain ⟨heap,tape,drawn,os,out⟩:=w';obtain ⟨heap0,tape0,drawn0,os0,out0⟩:=w;have h1:=h.os;have h2:=h.tape;have h3:=h.output;dsimp only at h1 h2 h3 hd hh;subst h1;subst h2;subst h3;simp only [Sort.grow,World.drewN,World.mk.injEq,and_true,true_and];exact ⟨hh,by omega⟩
theorem lM {w:World} {g b:Nat} {f:Array Value→Array Value} (h:b≠g):(Sort.mapBlock w g f).heap[b]?=w.heap[b]?:=by
 show (w.heap.modify g _)[b]?=_;rw [Array.getElem?_modify,if_neg (Ne.symm h)]
theorem JY {α:Type} [Inhabited α] {enc:α→Value} {w:World} {g m:Nat} {d:Array α} {os:Array Obj} {cur:Array Value} {e:TypeId} {fz:Nat×Nat} (hg:w.heap[g]?=some (.cells cur e fz)) (hd:d.size≤cur.size) :
  lE w (sortWorld enc w g 0 m d os) (some g)∧∃ cur',(sortWorld enc w g 0 m d os).heap[g]?=some (.cells cur' e fz)∧cur'.size=cur.size∧cur'.toList.take d.size=d.toList.map enc:=by
 have hlt:g<w.heap.size:=(Array.getElem?_eq_some_iff.1 hg).1;have hsz:(Sort.putRow enc (Sort.ahead w m) g 0 d).heap.size=w.heap.size:=by simp [Sort.putRow,Sort.mapBlock,Sort.ahead]
 refine ⟨⟨⟨rfl,rfl,rfl,?_,fun b hb hne=>?_⟩,?_⟩,Sort.putCells enc 0 d cur,?_,?_,?_⟩
 ·show _≤((Sort.putRow enc (Sort.ahead w m) g 0 d).heap++os).size;rw [Array.size_append,hsz];omega
 ·show ((Sort.putRow enc (Sort.ahead w m) g 0 d).heap++os)[b]?=_;rw [Array.getElem?_append_left (by rw [hsz];exact hb)];exact lM (w:=Sort.ahead w m) (fun e=>hne (by rw [e]))
 ·show w.drawn≤w.drawn+m;omega
 ·show ((Sort.putRow enc (Sort.ahead w m) g 0 d).heap++os)[g]?=_;rw [Array.getElem?_append_left (by rw [hsz];exact hlt)];show ((Sort.ahead w m).heap.modify g _)[g]?=_;rw [Array.getElem?_modify,if_pos rfl];show (w.heap[g]?).map _=_;rw [hg];rfl
 ·simp [Sort.putCells]
 apply List.ext_getElem?;intro i;rw [List.getElem?_take,List.getElem?_map];by_cases hi:i<d.size
 ·rw [if_pos hi];simp only [Sort.putCells,Array.getElem?_toList,Array.getElem?_mapIdx];have h1:cur[i]?=some cur[i]:=Array.getElem?_eq_getElem (by omega);have h2:d[i]?=some d[i]:=Array.getElem?_eq_getElem hi;rw [h1,h2];simp [hi]
 rw [if_neg hi];have:d[i]?=none:=Array.getElem?_eq_none (by omega);simp [this]
section
variable {P:Program} {r:Option Nat} {n:aV} {p:List PanicEntry→aV} {ops:Array Oper} {rest:List Oper} {d:Nat} {ty:TypeId} {pos:String} {af:Array Edge} {x:Fr} {Hs:List Hp} {σ:aM} {L:cB}
theorem kR.swo {α:Type} {f:α→α→Option Int} {l:List α} (h:kR f l):Sort.SWO (ltOf fun (a b:{x // x∈l})=>(f a.1 b.1).getD 0)∧(∀ a b:{x // x∈l},ltOf (fun (a b:{x // x∈l})=>(f a.1 b.1).getD 0) a b=iW f a.1 b.1):=by
 have key:∀ a b:{x // x∈l},ltOf (fun (a b:{x // x∈l})=>(f a.1 b.1).getD 0) a b=iW f a.1 b.1:=fun a b=>by
  obtain ⟨c,hc⟩:=h.some_ a.1 a.2 b.1 b.2;simp [ltOf,iW,hc]
 refine ⟨⟨fun a=>by rw [key];exact h.irr _ a.2,fun a b c h1 h2=>by rw [key] at *;exact h.tr _ a.2 _ b.2 _ c.2 h1 h2,fun a b c h1 h2=>?_⟩,key⟩;rw [key] at *
 cases h3:iW f a.1 c.1 with
 | false=>rfl
 | true =>
  exfalso
  cases h4:iW f b.1 a.1 with
  | true =>
   have:=h.tr _ b.2 _ a.2 _ c.2 h4 h3;rw [this] at h2;cases h2
  | false =>
   have e:=h.tot _ a.2 _ b.2 h1 h4;rw [e] at h3;rw [h3] at h2;cases h2
theorem sT {α:Type} (f:α→α→Option Int) (l:List α) (lt:{x // x∈l}→{x // x∈l}→Bool) (h:∀ a b,lt a b=iW f a.1 b.1):(l.attach.mergeSort fun a b=>!lt b a).map (·.1)=l.mergeSort fun x y=>!iW f y x:=by
 rw [List.map_mergeSort (s:=fun x y=>!iW f y x) (fun a _ b _=>by rw [h b a])];congr 1;exact List.attach_map_subtype_val l
theorem DL {α:Type} [Inhabited α] {enc:α→Value} {M:Prop} {w0 w:World} {H0:Hp} {g m:Nat} {d:Array α} {os:Array Obj} (hS:St M w0 H0 Hs σ w) {tg:Nat} {y:aP} (hy:cJ σ tg=some y) (hg:y.foot=some g):(iA w0 H0 σ w).le (hp (sortWorld enc w g 0 m d os)):=by
 intro b o hb;have hw:=hS.vis_le b o hb;have hne:b≠g:=by
  rintro rfl;unfold iA at hb;rw [if_pos ⟨tg,y,dR hy,hg⟩] at hb;cases hb
 have hlt:b<w.heap.size:=(Array.getElem?_eq_some_iff.1 hw).1;show ((Sort.putRow enc (Sort.ahead w m) g 0 d).heap++os)[b]?=_;rw [Array.getElem?_append_left (by simp [Sort.putRow,Sort.mapBlock,Sort.ahead];exact hlt)];exact (lM (w:=Sort.ahead w m) hne).trans hw
theorem QL {α:Type} {H:Hp} {g:FuncId} {cb:List Value} {V V':Hp→Value→α→Prop} {f:α→α→Option Int} (hF:eP True P H (.func (.func g) #[] cb.toArray) (VY V V' (fun c=>.int .i64 c) f)) :
  (∀ args w,(callFunc g args).run P w=.ok (.enter g args) w)∧∀ w,H.le (hp w)→∀ u v a b c,V H u a→V' H v b→f a b=some c→Calls P g (#[u,v]++cb.toArray) w fun e w'=>e=.returned (.int .i64 c)∧∃ q os',w'=Sort.grow (w.drewN q) os':=by
 obtain ⟨g',first,cap,e,hc,hr⟩:=hF;simp only [Value.func.injEq,Fn.func.injEq] at e;obtain ⟨rfl,h1,h2⟩:=e;have h1':first=[]:=by simpa using h1.symm
 have h2':cb=cap:=by simpa using h2
 subst h1';subst h2';refine ⟨hc,fun w hw u v a b c hu hv hfc=>?_⟩;have:=hr w H [u,v] (.int .i64 c) (Hp.le.refl _) hw ⟨u,v,a,b,c,rfl,hu,hv,hfc,rfl⟩;have e2:([]++[u,v]++cb).toArray = #[u,v]++cb.toArray:=by simp
 rw [e2] at this;refine this.mono fun e w' he=>?_
 cases e with
 | returned z=>exact ⟨by rw [he.1],DK trivial he.2⟩
 | panicked _=>exact he.elim
 | outgrown=>exact he.elim
end
end Pk
namespace Pk
open Go
theorem tv:True:=⟨⟩
theorem sj {α:Type} {x y:α} (h:some x=some y):x=y:=Option.some.inj h
section
variable {P:Program} {r:Option Nat} {ops:Array Oper} {ms:List Nat} {D:List Deferred} {k:Nat} {M:Prop} {w0:World} {H0:Hp} {Hs:List Hp} {σ:aM} {L0:cB} {pp:List PanicEntry→aV} {i:Nat} {o:Oper} {rest:List Oper} {E:cB} {F:cL} {d:Nat} {v:Value}
theorem dt {fin:cB→cL→Prop} (hd:o.dst=some d) (hX:∀ {K},TG ⟨D,k,M,w0,H0⟩ (K::Hs) σ (wJ (o.looksAt ops) E++L0) (O P r ops (fun a' w'=>∃ (_:Unit) (K':Hp),K.le K'∧St M w0 H0 (K'::Hs) σ w'∧a'.tmps[d]?=some v∧a'.defers=D∧True) pp [o]))
  (h:DF P r ops ms D k M w0 H0 Hs σ L0 pp fin (i+1) rest ((d,v)::E) F):DF P r ops ms D k M w0 H0 Hs σ L0 pp fin i (o::rest) E F :=
 .det hd (fun a w K hS hA _=>hX a w hS hA) h
theorem dc {us:List Nat} {T:List (Nat×Nat×Value)} {Sg:Option (Nat→Act→aM)} {fin:aM→cB→cL→Prop} {prev:List (Nat×aM)} (hne:us.contains i=false) (hb:CZ us ms i=true) (hp:HP (fun τ=>τ=σ) (ms.getD i 0) prev) (hn:eM T i=true) (hd:o.dst=some d)
  (hX:∀ {K},TG ⟨D,k,M,w0,H0⟩ (K::Hs) σ (wJ (o.looksAt ops) E++L0) (O P r ops (fun a' w'=>∃ (_:Unit) (K':Hp),K.le K'∧St M w0 H0 (K'::Hs) σ w'∧a'.tmps[d]?=some v∧a'.defers=D∧True) pp [o]))
  (h:DC P r ops ms D k M w0 H0 Hs L0 pp us T Sg fin prev σ (i+1) rest ((d,v)::E) F):DC P r ops ms D k M w0 H0 Hs L0 pp us T Sg fin prev σ i (o::rest) E F :=
 .det (fun τ=>τ=σ) hne rfl hb hp hn hd (fun τ hτ a w K hS hA _=>by subst hτ;exact hX a w hS hA) h
end
def gd (ops:Array Oper) (L:cB) (j:Nat):Option Value:=((ops[j]?).bind (·.dst)).bind (lk L)
def eb (d k:Nat) (v:Option Value):Option Value:=bif Nat.blt d k then v else none
theorem mI {d k:Nat} {v:Option Value} {u:Value} (h:eb d k v=some u):Nat.blt d k=true∧v=some u:=by
 unfold eb at h
 cases hb:Nat.blt d k with
 | true=>rw [hb] at h;exact ⟨rfl,h⟩
 | false=>rw [hb] at h;cases h
theorem zE {ops:Array Oper} {L:cB} {j:Nat} {v:Value} (h:gd ops L j=some v):∃ dj,(ops[j]?).bind (·.dst)=some dj∧lk L dj=some v:=by
 unfold gd at h
 cases hb:(ops[j]?).bind (·.dst) with
 | none=>rw [hb] at h;cases h
 | some dj=>rw [hb] at h;exact ⟨dj,rfl,h⟩
section
variable {P:Program} {r:Option Nat} {n:aV} {p:List PanicEntry→aV} {ops:Array Oper} {rest:List Oper} {d:Nat} {ty:TypeId} {pos:String} {af:Array Edge} {x:Fr} {Hs:List Hp} {σ:aM} {L:cB}
theorem gt {op:Op} {dst:Option Nat} {j:Nat} {q:Prop} [Decidable q] (hq:q) (hb:gd ops L j=some (.bool (decide q))) (h:OG P r ops n p x Hs σ L (⟨dst,op,ty,pos,af,none⟩::rest)):OG P r ops n p x Hs σ L (⟨dst,op,ty,pos,af,some (j,true)⟩::rest):=by
 obtain ⟨dj,h1,h2⟩:=zE hb;exact gN h1 h2 (decide_eq_true hq) h
theorem gf {op:Op} {j:Nat} {q:Prop} [Decidable q] (hq:¬q) (hb:eb d x.k (gd ops L j)=some (.bool (decide q))) (h:OG P r ops n p x Hs σ ((d,undef)::L) rest):OG P r ops n p x Hs σ L (⟨some d,op,ty,pos,af,some (j,true)⟩::rest):=by
 obtain ⟨hd,hb⟩:=mI hb;obtain ⟨dj,h1,h2⟩:=zE hb;exact gF h1 h2 (decide_eq_false hq) hd h
theorem dJ {op:Op} {dst:Option Nat} {j:Nat} {q:Prop} [Decidable q] (hq:¬q) (hb:gd ops L j=some (.bool (decide q))) (h:OG P r ops n p x Hs σ L (⟨dst,op,ty,pos,af,none⟩::rest)):OG P r ops n p x Hs σ L (⟨dst,op,ty,pos,af,some (j,false)⟩::rest):=by
 obtain ⟨dj,h1,h2⟩:=zE hb;exact gN h1 h2 (decide_eq_false hq) h
theorem BZ {op:Op} {j:Nat} {q:Prop} [Decidable q] (hq:q) (hb:eb d x.k (gd ops L j)=some (.bool (decide q))) (h:OG P r ops n p x Hs σ ((d,undef)::L) rest):OG P r ops n p x Hs σ L (⟨some d,op,ty,pos,af,some (j,false)⟩::rest):=by
 obtain ⟨hd,hb⟩:=mI hb;obtain ⟨dj,h1,h2⟩:=zE hb;exact gF h1 h2 (decide_eq_true hq) hd h
theorem m1 {y:Operand} {v:Value} (hy:eb d x.k (ev L y)=some v) (h:OG P r ops n p x Hs σ ((d,v)::L) rest):OG P r ops n p x Hs σ L (⟨some d,.move y,ty,pos,af,none⟩::rest):=mv (mI hy).1 (mI hy).2 h
theorem a1 {y:Operand} {v:Value} (hy:eb d x.k (ev L y)=some v) (h:OG P r ops n p x Hs σ ((d,v)::L) rest):OG P r ops n p x Hs σ L (⟨some d,.assign y,ty,pos,af,none⟩::rest):=av (mI hy).1 (mI hy).2 h
theorem pt {c y z:Operand} {q:Prop} [Decidable q] {v:Value} (hq:q) (hc:ev L c=some (.bool (decide q))) (hv:eb d x.k (ev L y)=some v) (h:OG P r ops n p x Hs σ ((d,v)::L) rest):OG P r ops n p x Hs σ L (⟨some d,.pick c y z,ty,pos,af,none⟩::rest):=pT (mI hv).1 hc (decide_eq_true hq) (mI hv).2 h
theorem pf {c y z:Operand} {q:Prop} [Decidable q] {v:Value} (hq:¬q) (hc:ev L c=some (.bool (decide q))) (hv:eb d x.k (ev L z)=some v) (h:OG P r ops n p x Hs σ ((d,v)::L) rest):OG P r ops n p x Hs σ L (⟨some d,.pick c y z,ty,pos,af,none⟩::rest):=pF (mI hv).1 hc (decide_eq_false hq) (mI hv).2 h
theorem cu {M:Prop} {w0:World} {H0:Hp} {D:List Deferred} {k:Nat} {L':cB} (h:PK L L'):∀ a w,St M w0 H0 Hs σ w→bQ D k a L→St M w0 H0 Hs σ w∧bQ D k a L':=fun a w hS hA=>⟨hS,hA.cut h⟩
end
abbrev gD:=Option Addr×Nat
abbrev Hd:=Option Addr×Nat×Nat
def fM (h:Hd):List Value:=[.slice h.1 h.2.1 h.2.2]
def jY {α:Type}:List gD→List (List α)→List Hd
 | a::az,y::g=>(a.1,y.length,a.2)::jY az g
 | _,_=>[]
def iG {α:Type} (el:TypeId) (size:Nat) (enc:α→List Value):Nat→List gD→List (List α)→aM
 | i,a::az,y::g=>(i,.list a.1 a.2 el size enc y)::iG el size enc (i+1) az g
 | _,_,_=>[]
structure hZ {α:Type} (hd:List Hd) (az:List gD) (g:List (List α)):Prop where
 len:az.length=g.length
 hd:hd=jY az g
section
variable {α:Type}
theorem uV:∀ {az:List gD} {g:List (List α)},az.length=g.length→(jY az g).length=g.length
 | [],[],_=>rfl
 | a::az,y::g,h=>by simp only [jY,List.length_cons] at *;rw [uV (by omega)]
 | [],_::_,h=>by simp at h
 | _::_,[],h=>by simp at h
theorem uW:∀ {az:List gD} {g:List (List α)} {j:Nat} {a:gD} {y:List α},az[j]?=some a→g[j]?=some y→(jY az g)[j]?=some (a.1,y.length,a.2)
 | [],_,_,_,_,h,_=>by simp at h
 | _::_,[],_,_,_,_,h=>by simp at h
 | b::az,z::g,0,a,y,h,h2=>by simp at h h2;subst h;subst h2;simp [jY]
 | b::az,z::g,j+1,a,y,h,h2=>by
  have:=uW (az:=az) (g:=g) (j:=j) (a:=a) (y:=y) (by simpa using h) (by simpa using h2);simpa [jY] using this
theorem uX:∀ {az:List gD} {g:List (List α)} {j:Nat} {y z:List α},g[j]?=some y→z.length=y.length→jY az (g.set j z)=jY az g
 | [],_,_,_,_,_,_=>by simp [jY]
 | _::_,[],_,_,_,h,_=>by simp at h
 | b::az,x::g,0,y,z,h,h2=>by simp at h;subst h;simp [jY,h2]
 | b::az,x::g,j+1,y,z,h,h2=>by
  have:=uX (az:=az) (g:=g) (j:=j) (y:=y) (z:=z) (by simpa using h) h2;simpa [jY] using this
theorem uY:∀ {az:List gD} {g:List (List α)} {j:Nat} {a:gD} {z:List α},jY (az.set j a) (g.set j z)=(jY az g).set j (a.1,z.length,a.2)
 | [],_,_,_,_=>by simp [jY]
 | _::_,[],_,_,_=>by simp [jY]
 | b::az,x::g,0,a,z=>by simp [jY]
 | b::az,x::g,j+1,a,z=>by
  have:=uY (az:=az) (g:=g) (j:=j) (a:=a) (z:=z);simp [jY,this]
variable {hd:List Hd} {az:List gD} {g:List (List α)} {j:Nat} {y z:List α} {ad:Option Addr} {cap:Nat}
theorem hZ.hlen (h:hZ hd az g):hd.length=g.length:=by rw [h.hd,uV h.len]
theorem hZ.at (h:hZ hd az g) (hy:g[j]?=some y):∃ ad cap,az[j]?=some (ad,cap)∧hd[j]?=some (ad,y.length,cap):=by
 have hj:j<az.length:=by rw [h.len];exact aT hy
 have ha:az[j]?=some az[j]:=List.getElem?_eq_getElem hj;refine ⟨az[j].1,az[j].2,ha,?_⟩;rw [h.hd];exact uW ha hy
theorem hZ.put (h:hZ hd az g) (hy:g[j]?=some y) (hl:z.length=y.length):hZ hd az (g.set j z):=⟨by rw [h.len];simp,by rw [uX hy hl];exact h.hd⟩
theorem hZ.new (h:hZ hd az g) (j:Nat) (z:List α) (ad:Option Addr) (cap:Nat):hZ (hd.set j (ad,z.length,cap)) (az.set j (ad,cap)) (g.set j z):=⟨by simp [h.len],by rw [uY,h.hd]⟩
variable {el:TypeId} {size:Nat} {enc:α→List Value}
theorem sU:∀ {az:List gD} {g:List (List α)} {i j:Nat} {ad:Option Addr} {cap:Nat} {y:List α},az[j]?=some (ad,cap)→g[j]?=some y→cJ (iG el size enc i az g) (i+j)=some (.list ad cap el size enc y)
 | [],_,_,_,_,_,_,h,_=>by simp at h
 | _::_,[],_,_,_,_,_,_,h=>by simp at h
 | b::az,x::g,i,0,ad,cap,y,h,h2=>by
  simp at h h2;subst h;subst h2;simp [iG,cJ]
 | b::az,x::g,i,j+1,ad,cap,y,h,h2=>by
  have:=sU (az:=az) (g:=g) (i:=i+1) (j:=j) (ad:=ad) (cap:=cap) (y:=y) (by simpa using h) (by simpa using h2);rw [show i+1+j=i+(j+1) by omega] at this;simp only [iG,cJ,dW (show i≠i+(j+1) by omega),cond_false];exact this
theorem QM:∀ {az:List gD} {g:List (List α)} {i j:Nat} {ad:Option Addr} {cap:Nat} {z:List α},az[j]?=some (ad,cap)→dP (iG el size enc i az g) (i+j) (.list ad cap el size enc z)=iG el size enc i az (g.set j z)
 | [],_,_,_,_,_,_,h=>by simp at h
 | _::_,[],_,_,_,_,_,_=>by simp [iG,dP]
 | b::az,x::g,i,0,ad,cap,z,h=>by
  simp at h;subst h;simp [iG,dP]
 | b::az,x::g,i,j+1,ad,cap,z,h=>by
  have:=QM (az:=az) (g:=g) (i:=i+1) (j:=j) (ad:=ad) (cap:=cap) (z:=z) (by simpa using h);rw [show i+1+j=i+(j+1) by omega] at this;simp only [iG,dP,dW (show i≠i+(j+1) by omega),cond_false,List.set_cons_succ,this]
theorem gk {σ:aM} {i b j:Nat} {x:aP} {r:Option aP} (h:Nat.blt i b=true) (k:cJ σ (b+j)=r):cJ ((i,x)::σ) (b+j)=r:=by
 have:i<b:=by simpa using h
 simp only [cJ,dW (show i≠b+j by omega),cond_false,k]
theorem zk {σ σ':aM} {i b j:Nat} {x y:aP} (h:Nat.blt i b=true) (k:dP σ (b+j) y=σ'):dP ((i,x)::σ) (b+j) y=(i,x)::σ':=by
 have:i<b:=by simpa using h
 simp only [dP,dW (show i≠b+j by omega),cond_false,k]
end
theorem fX:∀ {σ:aM},hD σ↔(σ.map (·.2)).Pairwise apart
 | []=>by simp [hD]
 | (i,x)::σ=>by
  simp only [hD,List.map_cons,List.pairwise_cons,List.mem_map,fX (σ:=σ)];refine and_congr ⟨?_,?_⟩ Iff.rfl
  ·rintro h y ⟨⟨k,z⟩,hm,rfl⟩;exact h k z hm
  intro h k y hm;exact h y ⟨(k,y),hm,rfl⟩
theorem St.re {M:Prop} {w0:World} {H0:Hp} {Hs:List Hp} {σ σ':aM} {w:World} (h:St M w0 H0 Hs σ w) (hm:∀ i z,(i,z)∈σ'→(∃ j,(j,z)∈σ)∨∃ el size,z=.row none 0 el size 0 []) (ha:hD σ'):St M w0 H0 Hs σ' w:=by
 refine ⟨h.h0,h.ext,?_,?_,ha⟩
 ·intro H hH;refine (h.le H hH).trans ?_;intro b o hb;unfold iA at hb ⊢
  split at hb
  ·cases hb
  rename_i hnf
  rw [if_neg ?_]
  ·exact hb
  rintro ⟨i,z,hz,hf⟩;rcases hm i z hz with ⟨j,hj⟩|⟨el,size,rfl⟩
  ·exact hnf ⟨j,z,hj,hf⟩
  cases hf
 intro i z hz;rcases hm i z hz with ⟨j,hj⟩|⟨el,size,rfl⟩
 ·exact h.own j z hj
 exact (h.nilRow 0 el size).own 0 _ List.mem_cons_self
theorem lV (x:aP) (el:TypeId) (size:Nat):apart (.row none 0 el size 0 []) x:=fun b h=>by cases h
theorem nL:∀ {A:aM} {t:Nat} {X:aP},cJ A t=some X→(A.map (·.2)).Perm (X::(eC A t).map (·.2))
 | [],t,X,h=>by simp [cJ] at h
 | (i,x)::A,t,X,h=>by
  by_cases e:i=t
  ·subst e;simp [cJ] at h;subst h;simp [eC]
  simp only [cJ,dW e,cond_false] at h;simp only [eC,dW e,cond_false,List.map_cons];exact ((nL h).cons x).trans (.swap X x _)
theorem DM {R:aP→aP→Prop} (hs:∀ {x y},R x y→R y x) {x:aP}:∀ {l:List aP} {i:Nat},(x::l).Pairwise R→(l.set i x).Pairwise R
 | [],_,_=>by simp
 | y::l,0,h=>by
  simp only [List.set_cons_zero,List.pairwise_cons] at *;exact ⟨fun z hz=>h.1 z (List.mem_cons_of_mem _ hz),h.2.2⟩
 | y::l,i+1,h=>by
  simp only [List.set_cons_succ,List.pairwise_cons] at *;refine ⟨fun z hz=>?_,DM hs (List.pairwise_cons.2 ⟨fun z hz=>h.1 z (List.mem_cons_of_mem _ hz),h.2.2⟩)⟩;rcases List.mem_or_eq_of_mem_set hz with h1|rfl
  ·exact h.2.1 z h1
  exact hs (h.1 y List.mem_cons_self)
theorem pZ {α:Type} {el:TypeId} {size:Nat} {enc:α→List Value}:∀ {az:List gD} {g:List (List α)} {i j:Nat} {ad:Option Addr} {cap:Nat} {l:List α},(iG el size enc i (az.set j (ad,cap)) (g.set j l)).map (·.2)=((iG el size enc i az g).map (·.2)).set j (.list ad cap el size enc l)
 | [],_,_,_,_,_,_=>by simp [iG]
 | _::_,[],_,_,_,_,_=>by simp [iG]
 | a::az,y::g,i,0,ad,cap,l=>by simp [iG]
 | a::az,y::g,i,j+1,ad,cap,l=>by
  have:=pZ (az:=az) (g:=g) (i:=i+1) (j:=j) (ad:=ad) (cap:=cap) (l:=l) (el:=el) (size:=size) (enc:=enc);simp only [List.set_cons_succ,iG,List.map_cons,this]
section
variable {α:Type} {x:Fr} {Hs:List Hp} {σ:aM} {L:cB} {N:aV} {el:TypeId} {size:Nat} {enc:α→List Value} {az:List gD} {g:List (List α)}
theorem TG.eq {σ':aM} (e:σ=σ') (h:TG x Hs σ' L N):TG x Hs σ L N:=e▸h
theorem TG.absorb (A:aM) {B:aM} (t:Nat) {b j:Nat} {ad:Option Addr} {cap:Nat} {l:List α} (ht:cJ A t=some (.list ad cap el size enc l)) (hB:eC A t=B) (h:TG x Hs (B++iG el size enc b (az.set j (ad,cap)) (g.set j l)) L N):TG x Hs (A++iG el size enc b az g) L N:=by
 subst hB;intro a w hS hA;refine h a w (hS.re ?_ ?_) hA
 ·intro i z hz;left;rcases List.mem_append.1 hz with h1|h1
  ·exact ⟨i,List.mem_append_left _ (jG h1)⟩
  have h2:z∈(iG el size enc b (az.set j (ad,cap)) (g.set j l)).map (·.2):=List.mem_map.2 ⟨_,h1,rfl⟩;rw [pZ] at h2;rcases List.mem_or_eq_of_mem_set h2 with h3|rfl
  ·obtain ⟨⟨k,z'⟩,h4,rfl⟩:=List.mem_map.1 h3;exact ⟨k,List.mem_append_right _ h4⟩
  exact ⟨t,List.mem_append_left _ (dR ht)⟩
 have ha:=fX.1 hS.apart;rw [fX];rw [List.map_append] at ha ⊢;have hp:=(nL ht).append_right ((iG el size enc b az g).map (·.2));have ha2:=(hp.pairwise_iff (R:=apart) (fun h=>eJ h)).1 ha;rw [List.cons_append] at ha2;have:=DM (R:=apart) (fun h=>eJ h) (i:=((eC A t).map (·.2)).length+j) ha2;rw [List.set_append_right _ _ (by omega),Nat.add_sub_cancel_left] at this;rw [pZ];exact this
theorem TG.gopen (el:TypeId) (size:Nat) (enc:α→List Value) (b n:Nat) (h:TG x Hs (σ++iG el size enc b (List.replicate n (none,0)) (List.replicate n [])) L N):TG x Hs σ L N:=by
 have hall:∀ (n b i:Nat) (z:aP),(i,z)∈iG el size enc b (List.replicate n (none,0)) (List.replicate n [])→z=.row none 0 el size 0 []:=by
  intro n
  induction n with
  | zero=>intro b i z h;simp [iG] at h
  | succ n ih =>
   intro b i z h;simp only [List.replicate_succ,iG,List.mem_cons,Prod.mk.injEq] at h;rcases h with ⟨_,rfl⟩|h
   ·rfl
   exact ih _ _ _ h
 intro a w hS hA;refine h a w (hS.re ?_ ?_) hA
 ·intro i z hz;rcases List.mem_append.1 hz with h1|h1
  ·exact .inl ⟨i,h1⟩
  exact .inr ⟨el,size,hall _ _ _ _ h1⟩
 rw [fX,List.map_append,List.pairwise_append];refine ⟨fX.1 hS.apart,?_,?_⟩
 ·refine List.Pairwise.imp_of_mem (R:=fun _ _=>True) (fun {u v} hu hv _=>?_) (List.pairwise_of_forall fun _ _=>trivial);obtain ⟨⟨i,z⟩,h1,rfl⟩:=List.mem_map.1 hu;rw [hall _ _ _ _ h1];exact lV _ _ _
 intro u hu v hv;obtain ⟨⟨i,z⟩,h1,rfl⟩:=List.mem_map.1 hv;rw [hall _ _ _ _ h1];exact eJ (lV _ _ _)
end
structure qM (P:Program) (t el:TypeId) (z:List Value) (size:Nat):Prop where
 zero:∃ v,bX v=z∧∀ w,(zeroValue t).run P w=.ok v w
 desc:∃ n,P.underlying t=some (.array n el)
 sz:∀ w,(Go.sizeOf el).run P w=.ok size w
section
variable {P:Program} {r:Option Nat} {n:aV} {p:List PanicEntry→aV} {ops:Array Oper} {rest:List Oper} {d:Nat} {ty:TypeId} {pos:String} {af:Array Edge} {x:Fr} {Hs:List Hp} {σ:aM} {L:cB}
theorem buA {t el:TypeId} {xs:List (Nat×Operand)} {vs:List (Nat×Value)} {z cs:List Value} {size:Nat} (hb:qM P t el z size) (hd:Nat.blt d x.k=true) (hx:fW L xs=some vs) (hf:iF (fun i=>some (i*size,size)) z vs=some cs) (h:OG P r ops n p x Hs σ ((d,.agg cs.toArray)::L) rest):OG P r ops n p x Hs σ L (⟨some d,.build t xs.toArray,ty,pos,af,none⟩::rest):=fun c w hS hA=>by
 obtain ⟨v,hv,hz⟩:=hb.zero;obtain ⟨m,hu⟩:=hb.desc;have hm:=iP hA hx;have hfill:Instr.fill (fun i=>some (i*size,size)) v.cells vs=some cs.toArray:=by rw [gQ,hv,pV,hf];rfl
 have hrun:(Instr.build t vs.toArray).run P w=.ok (.agg cs.toArray) w:=by
  simp only [Instr.build,Sem.run_bind,hz,run_underlying hu,Result.andThen,hb.sz,hfill];rfl
 exact cQ rfl (fun _ h=>by cases h) (w':=w) (v:=.agg cs.toArray) (by simp [execOp,hm,hrun]) (h _ w hS (hA.put hd _))
end
end Pk
namespace Pk
open Go Go.Proofs
theorem qN {α:Type} [Inhabited α] {enc:α→List Value} {k:Nat} (hk:∀ x,(enc x).length=k) (d:Array α):(Sort.flatK enc k d).toList=d.toList.flatMap enc:=by
  have hlen:(d.toList.flatMap enc).length=d.size*k:=by rw [jJ hk];simp
  apply List.ext_getElem?;intro t;by_cases ht:t<d.size*k
  · have k0:0 < k := by rcases Nat.eq_zero_or_pos k with h|h
                        · subst h;simp at ht
                        exact h
    have hq:t/k<d.size:=Nat.div_lt_of_lt_mul (by rwa [Nat.mul_comm] at ht);have hr:t%k<k:=Nat.mod_lt _ k0;have h1:d.toList[t/k]?=some d[t/k]!:=by rw [Array.getElem?_toList,Array.getElem?_eq_getElem hq,getElem!_pos d _ hq]
    have h2:∀ q:α,(enc q)[t%k]?=some (enc q)[t%k]!:=fun q=>by
      rw [List.getElem?_eq_getElem (by rw [hk];exact hr),getElem!_pos (enc q) _ (by rw [hk];exact hr)]
    have h3:=nF hk d.toList (t/k) _ h1 (t%k) _ (h2 _);rw [show t/k*k+t%k=t by rw [Nat.mul_comm];exact Nat.div_add_mod t k] at h3;rw [h3,Array.getElem?_toList,Array.getElem?_eq_getElem (by simpa using ht),← Sort.get_flatK enc k d t ht,getElem!_pos (Sort.flatK enc k d) t (by simpa using ht)]
  rw [List.getElem?_eq_none (by simp;omega),List.getElem?_eq_none (by omega)]
section
variable {P:Program} {r:Option Nat} {n:aV} {p:List PanicEntry→aV} {ops:Array Oper} {rest:List Oper} {d:Nat} {ty:TypeId} {pos:String} {af:Array Edge} {x:Fr} {Hs:List Hp} {σ:aM} {L:cB}
theorem JZ {α:Type} (tg:Nat) {enc:α→List Value} {k:Nat} (hk:∀ x,(enc x).length=k) (h1:∀ x,(enc x).all (·.oneCell')=true) {l l':List α} {f:α→α→Option Int} {fid:Nat} {z y s:Operand} {ats:Array TypeId} {ad:Option Addr} {cap nn:Nat} {el:TypeId} {g:FuncId} {cb:List Value} {V V':Hp→Value→α→Prop}
  (hC:JX P fid k) (hcall:∀ args w,(callFunc fid args).run P w=.ok (.enter fid args) w) (hd:Nat.blt d x.k=true) (hz:ev L z=some (.func (.func fid) #[] #[])) (hs:ev L s=some (.slice ad nn cap)) (hσ:cJ σ tg=some (.list ad cap el k enc l)) (hn:nn=l.length) (hy:ev L y=some (.func (.func g) #[] cb.toArray))
  (hF:∀ H,mM Hs H→eP True P H (.func (.func g) #[] cb.toArray) (VY V V' (fun c=>.int .i64 c) f)) (hV:∀ H u,V H (.agg (enc u).toArray) u) (hV':∀ H u,V' H (.agg (enc u).toArray) u) (hso:iT f l=some l')
  (h:OG P r ops n p x Hs (dP σ tg (.list ad cap el k enc l')) ((d,.tuple #[])::L) rest):OG P r ops n p x Hs σ L (⟨some d,.call ⟨.value z,#[s,y],ats⟩,ty,pos,af,none⟩::rest):=fun a w hS hA=>by
 subst hn;obtain ⟨hok,hm⟩:=mN hso;obtain ⟨eg,hcmp⟩:=QL (hF (iA x.w0 x.H0 σ w) fun i K hi=>hS.at i hi);have hrow:=hS.get hσ;have hxs:mD L [s,y]=some [.slice ad l.length cap,.func (.func g) #[] cb.toArray]:=by simp [mD,hs,hy]
 have fin:∀ w',St x.M x.w0 x.H0 Hs (dP σ tg (.list ad cap el k enc l')) w'→O P r ops n p rest (a.put (some d) (.tuple #[])) w':=fun w' hS'=>h _ w' hS' (hA.put hd _);have enterIt:∀ R:Ending→World→Prop,Calls P fid #[.slice ad l.length cap,.func (.func g) #[] cb.toArray] w R→(∀ e w',R e w'→e=.returned (.tuple #[])∧St x.M x.w0 x.H0 Hs (dP σ tg (.list ad cap el k enc l')) w')→O P r ops n p (⟨some d,.call ⟨.value z,#[s,y],ats⟩,ty,pos,af,none⟩::rest) a w:=fun R hR hk=>by
  refine iM rfl (fun _ h=>by cases h) (gJ (xs:=[s,y]) (first:=#[]) (cap:=#[]) hA hz hxs hcall) (by simpa using hR) ?_ ?_ ?_
  ·intro v w' hv;obtain ⟨e,hS'⟩:=hk _ _ hv;cases e;exact fin w' hS'
  ·intro ch w' hv;cases (hk _ _ hv).1
  intro w' hv;cases (hk _ _ hv).1
 by_cases hl:l=[]
 ·subst hl;have hl':l'=[]:=by rw [← hm];simp
  subst hl';refine enterIt _ (hC.1 ad cap _ w) fun e w' hw=>⟨hw.1,?_⟩;rw [hw.2];exact hS.as tg hσ rfl
 rcases hrow.2 with ⟨hn0,_⟩|⟨b,cap',cur,hv,_,hg,hnc,hcm,hcs,ht⟩
 ·simp only [Value.slice.injEq] at hn0;exact absurd (List.eq_nil_of_length_eq_zero hn0.2.1) hl
 simp only [Value.slice.injEq] at hv;obtain ⟨rfl,_,rfl⟩:=hv;have hx0:∃ u,u∈l:=List.exists_mem_of_ne_nil l hl
 haveI:Inhabited {u // u∈l}:=⟨⟨hx0.choose,hx0.choose_spec⟩⟩
 obtain ⟨hO,hlt⟩:=hok.swo;have hk':∀ u:{u // u∈l},(enc u.1).length=k:=fun u=>hk u.1;have hatt:l.attach.flatMap (fun u=>enc u.1)=l.flatMap enc:=by
  rw [List.flatMap_def,List.flatMap_def];congr 1;exact List.attach_map_val
 have hfl:(Sort.flatK (fun u:{u // u∈l}=>enc u.1) k l.attach.toArray).toList=l.flatMap enc:=by
  rw [qN hk'];exact hatt
 have hsz:l.attach.toArray.size=l.length:=by simp
 have hHolds:Sort.HoldsK (fun u:{u // u∈l}=>enc u.1) k w b 0 l.attach.toArray:=fun j hj=>by
  rw [Sort.size_flatK,hsz] at hj;have hj2:j<(Sort.flatK (fun u:{u // u∈l}=>enc u.1) k l.attach.toArray).size:=by rw [Sort.size_flatK,hsz];exact hj
  have hcj:cur[j]?=some ((Sort.flatK (fun u:{u // u∈l}=>enc u.1) k l.attach.toArray)[j]!):=by
   have h0:(cur.toList.take (l.length*k))[j]?=(l.flatMap enc)[j]?:=by rw [ht]
   rw [List.getElem?_take,if_pos hj,Array.getElem?_toList] at h0;rw [h0,← hfl,Array.getElem?_toList,Array.getElem?_eq_getElem hj2,getElem!_pos (Sort.flatK (fun u:{u // u∈l}=>enc u.1) k l.attach.toArray) j hj2]
  refine ⟨?_,?_⟩
  ·unfold World.cell?;rw [hg];simp only [Option.isSome_none,Bool.false_eq_true,if_false,Nat.zero_add,id];rw [hcj]
  unfold World.frozen?;rw [hg];simp
 have hcmp':CmpLays P g cb.toArray (fun u:{u // u∈l}=>enc u.1) k (fun a b=>(f a.1 b.1).getD 0) b 0 l.attach.toArray.size w:=fun m os dk _ u v=>by
  obtain ⟨c,hc⟩:=hok.some_ u.1 u.2 v.1 v.2;have:=hcmp (sortWorldK (fun u:{u // u∈l}=>enc u.1) k w b 0 m dk os) (DL (enc:=id) hS hσ rfl) (.agg (enc u.1).toArray) (.agg (enc v.1).toArray) u.1 v.1 c (hV _ _) (hV' _ _) hc;have e3:(f u.1 v.1).getD 0=c:=by rw [hc];rfl
  show Calls P g _ _ fun e w'=>e=.returned (.int .i64 ((f u.1 v.1).getD 0))∧_;rw [e3];exact this
 have hb:b<w.heap.size:=(Array.getElem?_eq_some_iff.1 hg).1;have hbig:l.attach.toArray.size<4611686018427387904:=by
  rw [hsz];exact Nat.lt_of_le_of_lt hok.small (by decide)
 have hT:∀ u v:{u // u∈l},ltOf (fun (a b:{u // u∈l})=>(f a.1 b.1).getD 0) u v=false→ltOf (fun (a b:{u // u∈l})=>(f a.1 b.1).getD 0) v u=false→u=v:=fun u v h1 h2=>by
  rw [hlt] at h1 h2;exact Subtype.ext (hok.tot _ u.2 _ v.2 h1 h2)
 have hcon:=hC.2 {u // u∈l} inferInstance (fun u=>enc u.1) hk' (fun u v hv=>List.all_eq_true.1 (h1 u.1) v hv) (fun (a b:{u // u∈l})=>(f a.1 b.1).getD 0) hO g cb.toArray b 0 cap l.attach.toArray w eg hcmp' hHolds hb hbig hT;rw [hsz] at hcon;have hS2:(l.attach.toArray.toList.mergeSort fun a b=>!ltOf (fun (a b:{u // u∈l})=>(f a.1 b.1).getD 0) b a).flatMap (fun u=>enc u.1)=l'.flatMap enc:=by
  have:=sT f l _ hlt;rw [hm] at this;rw [← this,List.flatMap_map]
 have hS1:(l.attach.toArray.toList.mergeSort fun a b=>!ltOf (fun (a b:{u // u∈l})=>(f a.1 b.1).getD 0) b a).length=l.length:=by
  rw [List.length_mergeSort];exact List.length_attach
 generalize (l.attach.toArray.toList.mergeSort fun a b=>!ltOf (fun (a b:{u // u∈l})=>(f a.1 b.1).getD 0) b a)=S at hcon hS1 hS2;refine enterIt _ hcon fun e w' hw=>⟨hw.1,?_⟩;obtain ⟨_,m,os,rfl⟩:=hw;have hms:(Sort.flatK (fun u:{u // u∈l}=>enc u.1) k S.toArray).size=l.length*k:=by rw [Sort.size_flatK,List.size_toArray,hS1]
 obtain ⟨hG,cur',hg',hcs',ht'⟩:=JY (enc:=id) (m:=m) (os:=os) (d:=Sort.flatK (fun u:{u // u∈l}=>enc u.1) k S.toArray) hg (by rw [hms,hcs];exact Nat.mul_le_mul_right _ hnc);have hlen:l'.length=l.length:=jE hso;refine hS.step hσ hG ?_ (fun b' hb'=>.inl hb');refine ⟨by rw [jJ hk],.inr ⟨b,cap,cur',by rw [hlen],Nat.zero_le _,hg',by omega,hcm,by rw [hcs',hcs],?_⟩⟩;rw [hms,List.map_id,qN hk'] at ht';rw [hlen,ht'];exact hS2
end
end Pk
namespace Pk
open Go
section
variable {P:Program} {r:Option Nat} {n:aV} {p:List PanicEntry→aV} {ops:Array Oper} {rest:List Oper} {d:Nat} {ty:TypeId} {pos:String} {af:Array Edge} {x:Fr} {Hs:List Hp} {σ:aM} {L:cB}
end
section
variable {α:Type} {hd:List Hd} {az:List gD} {g:List (List α)} {j:Nat} {ad:Option Addr} {cap:Nat} {el:TypeId} {size:Nat} {enc:α→List Value}
theorem sA:∀ {az:List gD} {g:List (List α)} {a:gD} {l:List α},az.length=g.length→jY (az++[a]) (g++[l])=jY az g++[(a.1,l.length,a.2)]
 | [],[],_,_,_=>rfl
 | b::az,y::g,a,l,h=>by
  have:=sA (az:=az) (g:=g) (a:=a) (l:=l) (by simpa using h);simp only [List.cons_append,jY,this]
 | [],_::_,_,_,h=>by simp at h
 | _::_,[],_,_,h=>by simp at h
theorem hZ.snoc (h:hZ hd az g) (l:List α) (ad:Option Addr) (cap:Nat):hZ (hd++[(ad,l.length,cap)]) (az++[(ad,cap)]) (g++[l]):=⟨by simp [h.len],by rw [sA h.len,h.hd]⟩
theorem hZ.none (α:Type):hZ (α:=α) [] [] []:=⟨rfl,rfl⟩
theorem uZ:∀ {az:List gD} {g:List (List α)} {i:Nat} {l:List α},az.length=g.length→(iG el size enc i (az++[(ad,cap)]) (g++[l])).map (·.2)=(iG el size enc i az g).map (·.2)++[.list ad cap el size enc l]
 | [],[],_,_,_=>rfl
 | b::az,y::g,i,l,h=>by
  have:=uZ (az:=az) (g:=g) (i:=i+1) (l:=l) (by simpa using h);simp only [List.cons_append,iG,List.map_cons,this]
 | [],_::_,_,_,h=>by simp at h
 | _::_,[],_,_,h=>by simp at h
theorem KA {A:aM} {z:aP} (h:z∈A.map (·.2)):∃ i,(i,z)∈A:=by
 obtain ⟨⟨i,z'⟩,hm,rfl⟩:=List.mem_map.1 h;exact ⟨i,hm⟩
theorem St.perm {M:Prop} {w0:World} {H0:Hp} {Hs:List Hp} {σ σ':aM} {w:World} {ns:List aP} (hS:St M w0 H0 Hs σ w) (hp:(σ'.map (·.2)).Perm (ns++σ.map (·.2))) (hn:∀ z∈ns,∃ el size,z=.row none 0 el size 0 []):St M w0 H0 Hs σ' w:=by
 refine hS.re (fun i z hz=>?_) ?_
 ·have:z∈ns++σ.map (·.2):=hp.subset (List.mem_map.2 ⟨_,hz,rfl⟩);rcases List.mem_append.1 this with h|h
  ·exact .inr (hn z h)
  exact .inl (KA h)
 rw [fX,hp.pairwise_iff (fun h=>eJ h),List.pairwise_append];refine ⟨?_,fX.1 hS.apart,?_⟩
 ·refine List.Pairwise.imp_of_mem (R:=fun _ _=>True) (fun {u v} hu hv _=>?_) (List.pairwise_of_forall fun _ _=>trivial);obtain ⟨el,size,rfl⟩:=hn u hu;exact lV _ _ _
 intro u hu v hv;obtain ⟨el,size,rfl⟩:=hn u hu;exact lV _ _ _
variable {x:Fr} {Hs:List Hp} {L:cB} {N:aV}
theorem TG.absorbA (A:aM) {B:aM} (t:Nat) {b:Nat} {l:List α} (hG:hZ hd az g) (ht:cJ A t=some (.list ad cap el size enc l)) (hB:eC A t=B) (h:TG x Hs (B++iG el size enc b (az++[(ad,cap)]) (g++[l])) L N):TG x Hs (A++iG el size enc b az g) L N:=by
 subst hB;intro a w hS hA;refine h a w (hS.perm (ns:=[]) ?_ (by simp)) hA;rw [List.nil_append,List.map_append,List.map_append,uZ hG.len];have hp:=(nL ht).append_right ((iG el size enc b az g).map (·.2));refine List.Perm.trans ?_ hp.symm;rw [← List.append_assoc,List.cons_append];exact List.perm_append_singleton _ _
theorem vA {α:Type}:∀ {l:List α} {i:Nat} {x y:α},l[i]?=some x→(x::l.set i y).Perm (y::l)
 | [],_,_,_,h=>by simp at h
 | z::l,0,x,y,h=>by simp at h;subst h;simp only [List.set_cons_zero];exact .swap _ _ _
 | z::l,i+1,x,y,h=>by
  have:=vA (l:=l) (i:=i) (x:=x) (y:=y) (by simpa using h);simp only [List.set_cons_succ];exact (List.Perm.swap z x _).trans ((this.cons z).trans (.swap y z _))
theorem TG.focus (A:aM) (t:Nat) {b:Nat} {l:List α} (ha:az[j]?=some (ad,cap)) (hg:g[j]?=some l) (h:TG x Hs ((t,.list ad cap el size enc l)::(A++iG el size enc b (az.set j (none,0)) (g.set j []))) L N):TG x Hs (A++iG el size enc b az g) L N:=by
 intro a w hS hA;refine h a w (hS.perm (ns:=[.row none 0 el size 0 []]) ?_ (by simp)) hA;simp only [List.map_cons,List.map_append];rw [pZ];have h0:((iG el size enc b az g).map (·.2))[j]?=some (.list ad cap el size enc l):=by
  clear hS hA h
  induction az generalizing g j b with
  | nil=>simp at ha
  | cons a0 az ih =>
   cases g with
   | nil=>simp at hg
   | cons y g =>
    cases j with
    | zero=>simp at ha hg;subst ha;subst hg;simp [iG]
    | succ j=>simp only [iG,List.map_cons,List.getElem?_cons_succ];exact ih (by simpa using ha) (by simpa using hg)
 have hp:=vA (y:=aP.list (none:Option Addr) 0 el size enc ([]:List α)) h0;have e0:(aP.list (none:Option Addr) 0 el size enc ([]:List α))=.row none 0 el size 0 []:=rfl;rw [e0] at hp ⊢;refine List.Perm.trans (List.perm_middle.symm) ?_;refine List.Perm.trans (List.Perm.append_left _ hp) ?_;exact List.perm_middle
end
end Pk
namespace Pk
open Go Go.Proofs
def WK (P:Program) (f:FuncId) (el:TypeId) (k:Nat):Prop :=
 ∀ (w:World) (ad:Option Addr) (cap nn:Nat) (cs:List Value) (j:Nat) (q:Addr) (vcap:Nat) (vs:List Value),
  (aP.row ad cap el k nn cs).holds w→j≤nn→nn+1≤1073741824→aN (hp w) q vs→vs.length=k→vs.all (·.oneCell')=true→cs.all (·.oneCell')=true→(∀ b,ad.map (·.block)=some b→b≠q.block)→1≤vcap →
  Calls P f #[.slice ad nn cap,.int .i64 j,.slice (some q) 1 vcap] w fun e w'=>∃ ad' cap',e=.returned (.slice ad' (nn+1) cap')∧(aP.row ad' cap' el k (nn+1) (cs.take (j*k)++vs++cs.drop (j*k))).holds w'∧lE w w' (ad.map (·.block))∧∀ b,ad'.map (·.block)=some b→ad.map (·.block)=some b∨w.heap.size≤b
theorem oQ {α:Type} {enc:α→List Value} {k:Nat} (he:∀ x,(enc x).length=k):∀ (l:List α) (j:Nat),(l.flatMap enc).take (j*k)=(l.take j).flatMap enc
 | [],j=>by simp
 | y::l,0=>by simp
 | y::l,j+1=>by
  have:=oQ he l j;simp only [List.flatMap_cons,List.take_succ_cons];rw [List.take_append,he,show (j+1)*k-k=j*k by rw [Nat.add_mul];omega,this,List.take_of_length_le (by rw [he,Nat.add_mul];omega)]
theorem oR {α:Type} {enc:α→List Value} {k:Nat} (he:∀ x,(enc x).length=k):∀ (l:List α) (j:Nat),(l.flatMap enc).drop (j*k)=(l.drop j).flatMap enc
 | [],j=>by simp
 | y::l,0=>by simp
 | y::l,j+1=>by
  have:=oR he l j;simp only [List.flatMap_cons,List.drop_succ_cons];rw [List.drop_append,he,show (j+1)*k-k=j*k by rw [Nat.add_mul];omega,this,List.drop_of_length_le (by rw [he,Nat.add_mul];omega),List.nil_append]
theorem QN (q:Addr) (a b:Nat):(q.add a).add b=q.add (a+b):=by
 unfold Addr.add;by_cases ha:a=0 <;> by_cases hb:b=0 <;> simp [ha,hb,Nat.add_assoc]
theorem OJ {q:Addr} {a b:Nat} {u:Operand} {L:cB} (h:ev L u=some (.pointer (some ((q.add a).add b)))):ev L u=some (.pointer (some (q.add (a+b)))):=by
 rw [h,QN]
theorem ad3 {q:Addr} {a b c:Nat} {u:Operand} {L:cB} (h:ev L u=some (.pointer (some (((q.add a).add b).add c)))):ev L u=some (.pointer (some (q.add (a+(b+c))))):=by
 rw [h,QN,QN]
section
variable {P:Program} {r:Option Nat} {n:aV} {p:List PanicEntry→aV} {ops:Array Oper} {rest:List Oper} {d:Nat} {ty:TypeId} {pos:String} {af:Array Edge} {x:Fr} {Hs:List Hp} {σ:aM} {L:cB}
theorem aCl {α:Type} (tg:Nat) {enc:α→List Value} {k:Nat} (hk0:Nat.blt 0 k=true) (he:∀ x,(enc x).length=k) (h1:∀ x,(enc x).all (·.oneCell')=true) (j:Nat) (x1:α) {l:List α} {fid:Nat} {z y s v:Operand} {ats:Array TypeId} {ad:Option Addr} {cap nn:Nat} {el:TypeId} {vad:Option Addr} {vcap:Nat} {m:Int} {K:Hp}
  (hC:WK P fid el k) (hcall:∀ args w,(callFunc fid args).run P w=.ok (.enter fid args) w) (hd:Nat.blt d x.k=true) (hz:ev L z=some (.func (.func fid) #[] #[])) (hs:ev L s=some (.slice ad nn cap)) (hσ:cJ σ tg=some (.list ad cap el k enc l)) (hn:nn=l.length) (hy:ev L y=some (.int .i64 m)) (hv:ev L v=some (.slice vad 1 vcap)) (hl:Sl (aD enc) k K vad vcap [x1]) (i:Nat) (hK:Hs[i]?=some K) (hm:m=(j:Int)) (hj:j≤l.length) (hb:l.length+1≤1073741824)
  (h:∀ ad' cap',OG P r ops n p x Hs (dP σ tg (.list ad' cap' el k enc (l.take j++[x1]++l.drop j))) ((d,.slice ad' (l.take j++[x1]++l.drop j).length cap')::L) rest):OG P r ops n p x Hs σ L (⟨some d,.call ⟨.value z,#[s,y,v],ats⟩,ty,pos,af,none⟩::rest):=fun a w hS hA=>by
 subst hn;subst hm;have hrow:=hS.get hσ;obtain ⟨q,cs',e1,hspot,hlen,hcells,hR⟩:=hl.2 0 x1 rfl;subst e1;have hq:aN (iA x.w0 x.H0 σ w) q (enc x1):=by
  have h0:=hcells.mono (hS.at i hK);have e2:q.add (0*k)=q:=by simp [Addr.add]
  rw [e2] at h0;have e3:cs'=enc x1:=hR;rw [e3] at h0;exact h0
 have hxs:mD L [s,y,v]=some [.slice ad l.length cap,.int .i64 (j:Int),.slice (some q) 1 vcap]:=by simp [mD,hs,hy,hv]
 have hlt:(l.take j++[x1]++l.drop j).length=l.length+1:=by simp;omega
 have hflat:(l.flatMap enc).take (j*k)++enc x1++(l.flatMap enc).drop (j*k)=(l.take j++[x1]++l.drop j).flatMap enc:=by
  rw [oQ he,oR he];simp
 have hone:(l.flatMap enc).all (·.oneCell')=true:=by
  rw [List.all_eq_true];intro u hu;obtain ⟨y',_,hu⟩:=List.mem_flatMap.1 hu;exact List.all_eq_true.1 (h1 y') u hu
 have hcon:=hC w ad cap l.length (l.flatMap enc) j q vcap (enc x1) hrow hj hb (hq.mono hS.vis_le) (he x1) (h1 x1) hone (fun b hb' e=>by
  have hk1:0<(enc x1).length:=by rw [he];simpa using hk0
  have hget:(enc x1)[0]?=some (enc x1)[0]:=List.getElem?_eq_getElem hk1;obtain ⟨c,ty',fz,h3,_⟩:=hq.2 0 _ hget;unfold iA at h3;rw [if_pos ⟨tg,_,dR hσ,by rw [← e];exact hb'⟩] at h3
  cases h3) (by have:=hl.1.1;simpa using this)
 have enterIt:∀ R:Ending→World→Prop,Calls P fid #[.slice ad l.length cap,.int .i64 (j:Int),.slice (some q) 1 vcap] w R→(∀ e w',R e w'→∃ ad' cap',e=.returned (.slice ad' (l.length+1) cap')∧St x.M x.w0 x.H0 Hs (dP σ tg (.list ad' cap' el k enc (l.take j++[x1]++l.drop j))) w')→O P r ops n p (⟨some d,.call ⟨.value z,#[s,y,v],ats⟩,ty,pos,af,none⟩::rest) a w:=fun R hR hk=>by
  refine iM rfl (fun _ h=>by cases h) (gJ (xs:=[s,y,v]) (first:=#[]) (cap:=#[]) hA hz hxs hcall) (by simpa using hR) ?_ ?_ ?_
  ·intro u w' hv;obtain ⟨ad',cap',e,hS'⟩:=hk _ _ hv;cases e;have:=h ad' cap' _ w' hS' (hA.put hd (.slice ad' (l.take j++[x1]++l.drop j).length cap'));rw [hlt] at this;exact this
  ·intro ch w' hv;obtain ⟨_,_,e,_⟩:=hk _ _ hv;cases e
  intro w' hv;obtain ⟨_,_,e,_⟩:=hk _ _ hv;cases e
 refine enterIt _ hcon fun e w' hw=>?_;obtain ⟨ad',cap',he',hh,hG,hf⟩:=hw;refine ⟨ad',cap',he',?_⟩;refine hS.step hσ hG ?_ hf;unfold aP.list;rw [hlt,← hflat];exact hh
theorem lnE {y:Operand} {t el:TypeId} {ad:Option Addr} {l m c:Nat} (e:l=m) (hu:P.underlying t=some (.slice el)) (hd:Nat.blt d x.k=true) (hy:ev L y=some (.slice ad l c)) (h:OG P r ops n p x Hs σ ((d,.int .i64 (m:Int))::L) rest):OG P r ops n p x Hs σ L (⟨some d,.call ⟨.builtin .len,#[y],#[t]⟩,ty,pos,af,none⟩::rest):=by
 subst e;exact dU hu hd hy h
end
end Pk
namespace Pk
open Go
section
variable {α:Type} {hd:List Hd} {az:List gD} {g:List (List α)} {ad:Option Addr} {cap:Nat} {el iel:TypeId} {size:Nat} {enc:α→List Value}
variable {x:Fr} {Hs:List Hp} {σ:aM} {L:cB} {N:aV}
theorem St.seen {w0:World} {H0:Hp} {w:World} {σ':aM} {b:Nat} {o:Obj} (hb:w0.heap.size≤b) (hn:¬iI σ' b) (ho:w.heap[b]?=some o):iA w0 H0 σ' w b=some o:=by
 unfold iA;rw [if_neg hn,if_neg (by omega)];exact ho
theorem TG.stillG (A:aM) {B:aM} (t:Nat) {b:Nat} (hG:hZ hd az g) (ht:cJ A t=some (.list ad cap el 1 fM hd)) (hB:eC A t=B) (he:∀ x,(enc x).length=size) (h:∀ K,Sl (tX (aD enc) size) 1 K ad cap g→TG x (K::Hs) B L N):TG x Hs (A++iG iel size enc b az g) L N:=by
 subst hB;intro a w hS hA;have hp:((A++iG iel size enc b az g).map (·.2)).Perm (aP.list ad cap el 1 fM hd::((eC A t).map (·.2)++(iG iel size enc b az g).map (·.2))):=by
  rw [List.map_append];exact (nL ht).append_right _
 have hpw:=(hp.pairwise_iff (R:=apart) (fun h=>eJ h)).1 (fX.1 hS.apart);rw [List.pairwise_cons,List.pairwise_append] at hpw;obtain ⟨hX,hB1,_,hBG⟩:=hpw;have hS':St x.M x.w0 x.H0 Hs (eC A t) w:=hS.re (fun i z hz=>.inl ⟨i,List.mem_append_left _ (jG hz)⟩) (fX.2 hB1);have hS2:St x.M x.w0 x.H0 (iA x.w0 x.H0 (eC A t) w::Hs) (eC A t) w:=by
  refine ⟨hS'.h0,hS'.ext,fun H hH=>?_,hS'.own,hS'.apart⟩;rcases List.mem_cons.1 hH with rfl|hH
  ·exact Hp.le.refl _
  exact hS'.le H hH
 have hfoot:∀ z:aP,(∀ u∈(eC A t).map (·.2),apart z u)→∀ c,z.foot=some c→¬iI (eC A t) c:=by
  rintro z hz c hc ⟨i,u,hu,hf⟩;exact hz u (List.mem_map.2 ⟨_,hu,rfl⟩) c hc hf
 have hXo:=hS.own t _ (List.mem_append_left _ (dR ht));have hout:Sl (aD fM) 1 (iA x.w0 x.H0 (eC A t) w) ad cap hd:=nG (H:=iA x.w0 x.H0 (eC A t) w) (enc:=fM) (size:=1) (fun _=>rfl) hXo.1 (fun c hc o ho=>St.seen (hXo.2 c hc) (hfoot _ (fun u hu=>hX u (List.mem_append_left _ hu)) c hc) ho);refine h _ ⟨⟨by rw [← hG.hlen];exact hout.1.1,hout.1.2⟩,fun i y hy=>?_⟩ a w hS2 hA;obtain ⟨ad',cp,ha,hh⟩:=hG.at hy;obtain ⟨p,cs,e1,e2,e3,e4,e5⟩:=hout.2 i _ hh;have hm:=dR (sU (el:=iel) (size:=size) (enc:=enc) (i:=b) ha hy);have hio:=hS.own (b+i) _ (List.mem_append_right _ hm);refine ⟨p,cs,e1,e2,e3,e4,ad',cp,e5,nG (H:=iA x.w0 x.H0 (eC A t) w) he hio.1 (fun c hc o ho=>St.seen (hio.2 c hc) (hfoot _ (fun u hu=>eJ (hBG u hu _ (List.mem_map.2 ⟨_,hm,rfl⟩))) c hc) ho)⟩
theorem TG.stillC (t:Nat) {b:Nat} {ty:TypeId} {cs:List Value} (ht:cJ σ t=some (bE b ty cs)) (h:∀ K,aN K ⟨b,0,none⟩ cs→TG x (K::Hs) (eC σ t) L N):TG x Hs σ L N:=by
 intro a w hS hA;refine h _ ?_ a w (hS.rest (t:=t)) hA;have hho:=hS.get ht;have hf:∀ c,(bE b ty cs).foot=some c→x.w0.heap.size≤c:=(hS.own t _ (dR ht)).2;refine ⟨rfl,fun j v hj=>⟨cs.toArray,ty,(0,0),hS.rest_vis ht hf rfl hho,?_⟩⟩;simpa using hj
theorem TG.apJ {D:List Deferred} {k:Nat} {M:Prop} {w0:World} {H0:Hp} {a:Act} {w:World} {Hs':List Hp} {σ':aM} {L':cB} (h:TG ⟨D,k,M,w0,H0⟩ Hs σ L (fun a w=>St M w0 H0 Hs' σ' w∧bQ D k a L')) (hS:St M w0 H0 Hs σ w) (hA:bQ D k a L):St M w0 H0 Hs' σ' w∧bQ D k a L':=h a w hS hA
end
inductive Any where
 | i (n:Int)
 | s (b:aE)
deriving DecidableEq,Inhabited
def WL:Any→Value
 | .i n=>.iface 3 (.int .i64 n)
 | .s b=>.iface 9 (.string (bs b))
def qO (x:Any):List Value:=[WL x]
section
variable {P:Program} {r:Option Nat} {n:aV} {p:List PanicEntry→aV} {ops:Array Oper} {rest:List Oper} {d:Nat} {ty:TypeId} {pos:String} {af:Array Edge} {x:Fr} {Hs:List Hp} {σ:aM} {L:cB}
end
end Pk
namespace Pk
open Go Go.Proofs
theorem aCm {H:Type} {enc:TypeId×Value→H} {C:Checked} {os:Os} {f:FuncId} {fn:Func} {s:ChangeSpec} {cd:List PathCond} {X:World→Prop} (hX:∀ w w':World,w.heap=w'.heap→X w→X w')
  (own:ownKnob C.prog.godebug=none) (st:os.Started) (ni:C.prog.inits.idxOf? f=none) (hfn:C.prog.funcs[f]?=some fn)
  (wit:∃ (w:World) (tape:Tape) (i:Input),w.os=os∧(w.forCall tape i).Shaped C.prog∧i.vars=[]∧Input.okWide C.prog (w.forCall tape i) .any w.heap.size f i ∧
   ((s.pre enc C.prog fn cd false (w.forCall tape i).memory i.args∧X (w.forCall tape i).memory)∧sizedMet enc C.prog fn (OpenSpec.ofChange s) false (w.forCall tape i).memory i.args)∧({}:Assume).holds C.prog (lone (Frame.enter C.prog f i.args .normal) [] (w.forCall tape i)))
  (main:∀ (W:World) (base:Nat) (args:Array Value) (ds gs:List (DataW H)) (before:List MemPlace),(∀ (j:Nat) t v,fn.params[j]?=some t→args[j]?=some v→Value.okWide C.prog W .any base t v) →
   DataW.Whole enc C.prog fn.params.toList s.vars false W args.toList ds gs before→(DataW.weightsEach C.prog (fn.params.toList++s.plain.varTypes C.prog) (ds++gs)).all (· ≤ reachBytes)=true→X W→W.ShapedOpen C.prog →
   Calls C.prog f args W fun e W'=>∃ v,e=.returned v∧s.post enc C.prog fn false true false false W args v W') :
  ReturnsInHanded {} C os f .any (fun w args=>(s.pre enc C.prog fn cd false w args∧X w)∧sizedMet enc C.prog fn (OpenSpec.ofChange s) false w args) (s.post enc C.prog fn false true false false):=by
 refine returnsInHanded_of_calls own st ni wit fun w tape i _ hsh _ hok hpre _=>?_;obtain ⟨_,_,_,fn',hfn',_,_,_,_,hval⟩:=hok;obtain rfl:fn'=fn:=Option.some.inj (hfn'.symm.trans hfn);obtain ⟨⟨⟨ds,gs,before,hw,_⟩,hx⟩,hz⟩:=hpre;refine (main (w.forCall tape i) w.heap.size i.args ds gs before hval (DataW.Whole.of_heap (w':=w.forCall tape i) (by rfl) hw) (hz.weights hw) (hX _ _ (by rfl) hx) hsh).mono fun e W' h=>?_;obtain ⟨v,rfl,hp⟩:=h;exact ChangeSpec.post_blind hp
theorem AR {w:World} {g:Nat} {v:Value} (h:w.cell? ⟨g,0,none⟩=some v):aN (hp w) ⟨g,0,none⟩ [v]:=by
 refine ⟨rfl,fun j u hu=>?_⟩
 cases j with
 | succ j=>simp at hu
 | zero =>
  obtain rfl:v=u:=by simpa using hu
  unfold World.cell? at h;simp only [] at h
  cases hb:w.heap[g]? with
  | none=>simp [hb] at h
  | some o =>
   cases o <;> simp [hb] at h
   rename_i cs t z
   exact ⟨cs,t,z,hb,by simpa using h⟩
theorem WM {a b:Bool} (ha:a=true) (hb:b=true):(a&&b)=true:=by rw [ha,hb];rfl
section
variable {P:Program} {r:Option Nat} {n:aV} {p:List PanicEntry→aV} {ops:Array Oper} {rest:List Oper} {d:Nat} {ty:TypeId} {pos:String} {af:Array Edge} {x:Fr} {Hs:List Hp} {σ:aM} {L:cB}
end
abbrev IJ (v:Value):List PanicEntry:=[{ v:=v,recovered:=false }]
def wW {α:Type} (M:Prop) (W:World) (f:α→Value) (tv:Value) (o:α⊕Unit):Ending→World→Prop:=fun e w=>match o with
 | .inl r=>e=.returned (f r)∧gP M W w
 | .inr _=>e=.panicked (IJ tv)∧gP M W w
theorem sV {α:Type} {M:Prop} {W w:World} {f:α→Value} {tv v:Value} {r:α} (h:v=f r) (hE:gP M W w):wW M W f tv (.inl r) (.returned v) w:=⟨by rw [h],hE⟩
theorem nM {α:Type} {M:Prop} {W w:World} {f:α→Value} {tv:Value} {u:Unit} (hE:gP M W w):wW M W f tv (.inr u) (.panicked (IJ tv)) w:=⟨rfl,hE⟩
section
variable {P:Program} {r:Option Nat} {n:aV} {p:List PanicEntry→aV} {ops:Array Oper} {rest:List Oper} {dst:Option Nat} {ty:TypeId} {pos:String} {af:Array Edge} {x:Fr} {Hs:List Hp} {σ:aM} {L:cB}
theorem pnc {y:Operand} {t:TypeId} {v:Value} (hy:ev L y=some (.iface t v)) (h:TG x Hs σ L (p (IJ (.iface t v)))):OG P r ops n p x Hs σ L (⟨dst,.panic y,ty,pos,af,none⟩::rest):=fun a w hS hA=>by
 show O P r ops n p _ a w;simp only [O,Region.wanted,if_true];refine ⟨fun _ _=>trivial,?_⟩;rw [Oper.semAt_eq _ _ _ (fun c h=>by cases h)];have e:(execOp a.eval ⟨dst,.panic y,ty,pos,af,none⟩).run P w=.halt (.panic (.iface t v)) w:=by
  simp [execOp,hA.eval hy,Instr.panic,goPanic]
 rw [e];exact h a w hS hA
end
section
variable {P:Program} {r:Option Nat} {n rt:aV} {e:List (Nat×aV)} {p:List PanicEntry→aV} {a:Act} {w:World}
variable {D:List Deferred} {k:Nat} {L:cB} {ops:Array Oper} {rest:List Oper} {d:Nat} {ty:TypeId} {pos:String} {af:Array Edge} {dst:Option Nat}
variable {M:Prop} {w0:World} {H0:Hp} {Hs:List Hp} {σ:aM}
end
section
variable {P:Program} {r:Option Nat} {n:aV} {p:List PanicEntry→aV} {ops:Array Oper} {rest:List Oper} {d:Nat} {ty:TypeId} {pos:String} {af:Array Edge} {x:Fr} {Hs:List Hp} {σ:aM} {L:cB}
end
theorem stF {P:Program} {r:Option Nat} {D:List Deferred} {k d:Nat} {M:Prop} {w0:World} {H0 K B K':Hp} {Hs:List Hp} {L:cB} {ops:Array Oper} {p:List PanicEntry→aV} {α:Type} {f:α→Value} {G:α→Hp→Prop} {σ1:α→aM} (x:α) (hm:kV G) (hG:G x K'):TG ⟨D,k,M,w0,H0⟩ (K'::B::K::Hs) (σ1 x) ((d,f x)::L) (O P r ops (fun a' w'=>∃ (x:α) (K':Hp),K.le K'∧St M w0 H0 (K'::Hs) (σ1 x) w'∧a'.tmps[d]?=some (f x)∧a'.defers=D∧G x K') p []):=sk1 (WC x hm hG)
theorem wX {P:Program} {w:World} {src dst el:TypeId} (hs:P.underlying src=some (.slice el)) (he:P.underlying el=some (.int .u8)) (hdst:P.underlying dst=some .string) {ad:Option Addr} {cap:Nat} {l:aE} (hl:Sl (aD cH) 1 (hp w) ad cap l) :
  (convert src dst (.slice ad l.length cap)).run P w=.ok (.string (bs l)) w:=by
 cases ad with
 | none =>
  have:l=[]:=by
   cases l with
   | nil=>rfl
   | cons c l=>obtain ⟨p,_,h,_⟩:=hl.2 0 c rfl;cases h
  subst this;exact run_convert_bytes_nil w src el hs he _ _ dst hdst
 | some a =>
  have h:=run_loadCells_list (P:=P) w a (l.map fun c=>Value.int .u8 c.toNat) (fun j v hj=>by
   rw [List.getElem?_map,Option.map_eq_some_iff] at hj;obtain ⟨c,hc,rfl⟩:=hj;obtain ⟨p,cs,h1,h2,h3,h4,h5⟩:=hl.2 j c hc;cases h1;have h5:cs=cH c:=h5;subst h5;have:=h4.cell (j:=0) (v:=.int .u8 c.toNat) rfl;rw [Nat.mul_one] at this;have e:(a.add j).add 0=a.add j:=by rw [eA h2];rfl
   rwa [e] at this)
  rw [List.length_map] at h;have h2:(l.map fun c=>Value.int .u8 c.toNat).toArray=((l.map fun c=>(c.toNat:Int)).map (Value.int .u8)).toArray:=by rw [List.map_map];rfl
  rw [h2] at h;rw [run_convert_bytes_string w src dst el _ _ cap hs he hdst,run_bytesToString w _ _ cap _ h,foldl_push_bytes];congr 2;unfold bs;have:(List.map (fun n=>UInt8.ofNat n.toNat) (List.map (fun c=>(c.toNat:Int)) l))=l:=by
   rw [List.map_map]
   conv=>rhs;rw [← List.map_id l]
   exact List.map_congr_left fun c _=>by simp
  rw [this];show ByteArray.mk (#[]++l.toArray)=_;simp
section
variable {P:Program} {r:Option Nat} {n:aV} {p:List PanicEntry→aV} {ops:Array Oper} {rest:List Oper} {d:Nat} {ty:TypeId} {pos:String} {af:Array Edge} {x:Fr} {Hs:List Hp} {σ:aM} {L:cB}
theorem cvT {src dst el:TypeId} {y:Operand} {ad:Option Addr} {cap:Nat} {l:aE} {H:Hp} (hl:Sl (aD cH) 1 H ad cap l) (i:Nat) (hi:Hs[i]?=some H) (hs:P.underlying src=some (.slice el)) (he:P.underlying el=some (.int .u8)) (hdst:P.underlying dst=some .string) (hd:Nat.blt d x.k=true) (hy:ev L y=some (.slice ad l.length cap))
  (h:OG P r ops n p x Hs σ ((d,.string (bs l))::L) rest):OG P r ops n p x Hs σ L (⟨some d,.convert src dst y,ty,pos,af,none⟩::rest):=fun c w hS hA=>by
 refine cQ rfl (fun _ h=>by cases h) (w':=w) (v:=.string (bs l)) ?_ (h _ w hS (hA.put hd _));simp [execOp,hA.eval hy,wX hs he hdst (hl.mono (aD.mono _) (hS.hp i hi))]
theorem u8c {t:Int} (h:0≤t∧t≤255):bX (.int .u8 t)=cH (UInt8.ofNat t.toNat):=by
 have:((UInt8.ofNat t.toNat).toNat:Int)=t:=by
  rw [UInt8.toNat_ofNat'];omega
 simp [bX,cH];omega
theorem WN {α:Type} (x:α):([x]:List α).length=1:=rfl
theorem KB {y z:Operand} {t u:TypeId} {a b:aE} (hd:Nat.blt d x.k=true) (hy:ev L y=some (.string (bs a))) (hz:ev L z=some (.string (bs b))) (hl:a.length+b.length≤1073741824) (h:OG P r ops n p x Hs σ ((d,.string (bs (a++b)))::L) rest):OG P r ops n p x Hs σ L (⟨some d,.binOp .add t y z u,ty,pos,af,none⟩::rest):=fun c w hS hA=>by
 refine cQ rfl (fun _ h=>by cases h) (w':=w) (v:=.string (bs (a++b))) ?_ (h _ w hS (hA.put hd _));have e:bs a++bs b=bs (a++b):=by
  apply ByteArray.ext;simp [bs]
 have hle:¬(IntKind.i64.max<(((bs a).size+(bs b).size:Nat):Int)):=by
  rw [fV,fV];have:IntKind.i64.max=9223372036854775807:=by decide
  omega
 simp [execOp,hA.eval hy,hA.eval hz,eqGuard,binOp,Op.stringOp,e];simpa using hle
end
theorem oS:∀ {σ:aM},hD σ↔(σ.map Prod.snd).Pairwise apart
 | []=>by simp [hD]
 | (i,x)::σ=>by
  rw [hD,List.map_cons,List.pairwise_cons,oS];constructor
  ·rintro ⟨h1,h2⟩;refine ⟨fun y hy=>?_,h2⟩;obtain ⟨⟨j,z⟩,hz,rfl⟩:=List.mem_map.1 hy;exact h1 j z hz
  rintro ⟨h1,h2⟩;exact ⟨fun j y hy=>h1 y (List.mem_map.2 ⟨(j,y),hy,rfl⟩),h2⟩
theorem St.permO {M:Prop} {w0 w:World} {H0:Hp} {Hs:List Hp} {σ σ':aM} (h:(σ'.map Prod.snd).Perm (σ.map Prod.snd)) (hS:St M w0 H0 Hs σ w):St M w0 H0 Hs σ' w:=by
 have mem:∀ {i x},(i,x)∈σ'→∃ j,(j,x)∈σ:=fun {i x} hx=>by
  have h2:x∈σ.map Prod.snd:=h.subset (List.mem_map.2 ⟨(i,x),hx,rfl⟩);obtain ⟨⟨j,z⟩,hz,rfl⟩:=List.mem_map.1 h2;exact ⟨j,hz⟩
 have mem':∀ {i x},(i,x)∈σ→∃ j,(j,x)∈σ':=fun {i x} hx=>by
  have h2:x∈σ'.map Prod.snd:=h.symm.subset (List.mem_map.2 ⟨(i,x),hx,rfl⟩);obtain ⟨⟨j,z⟩,hz,rfl⟩:=List.mem_map.1 h2;exact ⟨j,hz⟩
 have hv:iA w0 H0 σ' w=iA w0 H0 σ w:=by
  funext b;have:iI σ' b↔iI σ b:=by
   constructor
   ·rintro ⟨i,x,hx,hb⟩;obtain ⟨j,hj⟩:=mem hx;exact ⟨j,x,hj,hb⟩
   rintro ⟨i,x,hx,hb⟩;obtain ⟨j,hj⟩:=mem' hx;exact ⟨j,x,hj,hb⟩
  unfold iA;by_cases hf:iI σ' b
  ·rw [if_pos hf,if_pos (this.1 hf)]
  rw [if_neg hf,if_neg (fun h=>hf (this.2 h))]
 refine ⟨hS.h0,hS.ext,fun H hH=>by rw [hv];exact hS.le H hH,fun i x hx=>?_,?_⟩
 ·obtain ⟨j,hj⟩:=mem hx;exact hS.own j x hj
 rw [oS];exact h.symm.pairwise (oS.1 hS.apart) (fun hxy=>eJ hxy)
section
variable {x:Fr} {Hs:List Hp} {σ:aM} {L:cB} {N:aV}
theorem TG.permO {σ':aM} (hp:(σ'.map Prod.snd).Perm (σ.map Prod.snd)) (h:TG x Hs σ' L N):TG x Hs σ L N:=fun a w hS hA=>h a w (hS.permO hp) hA
theorem lW:∀ {σ:aM} {t:Nat} {o:aP},cJ σ t=some o→(o::(eC σ t).map Prod.snd).Perm (σ.map Prod.snd)
 | [],t,o,h=>by simp [cJ] at h
 | (i,z)::σ,t,o,h=>by
  by_cases e:i=t
  ·subst e;simp only [cJ,gI,cond_true,Option.some.injEq] at h;subst h;simp [eC,gI]
  simp only [cJ,dW e,cond_false] at h;simp only [eC,dW e,cond_false,List.map_cons];exact (List.Perm.swap z o _).trans ((lW h).cons z)
variable {P:Program} {fn:Func} {R:Ending→World→Prop}
end
theorem u8e {t:Int} (h:0≤t∧t≤255):[Value.int .u8 t]=cH (UInt8.ofNat t.toNat):=u8c h
section
variable {P:Program} {r:Option Nat} {n:aV} {p:List PanicEntry→aV} {ops:Array Oper} {rest:List Oper} {d:Nat} {ty:TypeId} {pos:String} {af:Array Edge} {x:Fr} {Hs:List Hp} {σ:aM} {L:cB} {N:aV}
variable {κ α:Type} {ke:κ→Value} {enc:α→Value}
variable [DecidableEq κ] {kd:TypeDesc} [oM ke kd]
theorem vB (tg:Nat) (s:κ) (y:α) {t kt et:TypeId} {u i v:Operand} {b:Nat} {m:List (κ×α)} (hu:P.underlying t=some (.map kt et)) (hk:P.underlying kt=some kd) (hx:ev L u=some (.map (some b))) (hi:ev L i=some (ke s)) (hv:ev L v=some (enc y)) (hσ:cJ σ tg=some (aP.map' ke enc b m))
  (h:OG P r ops n p x Hs (dP σ tg (aP.map' ke enc b (put m s y))) L rest):OG P r ops n p x Hs σ L (⟨none,.insert t u i v,ty,pos,af,none⟩::rest):=fun c w hS hA=>by
 have hb:w.heap[b]?=some (.map (gC ke enc m 0).toArray m.length):=hS.get hσ;have hck:∀ e,(Instr.checkKey e 10000 kt (ke s)).run P w=.ok () w:=fun e=>MapKept.run_checkKey hk (oM.is s) e 9999;have hset:=fun o=>MapKept.run_setObj_map (P:=P) o hb;have hlt:b<w.heap.size:=(Array.getElem?_eq_some_iff.1 hb).1
 have hgr:∀ o,lE w { w with heap:=w.heap.setIfInBounds b o } (some b):=fun o=>⟨⟨rfl,rfl,rfl,by simp,fun j _ hne=>by
  show (w.heap.setIfInBounds b _)[j]?=_
  exact Array.getElem?_setIfInBounds_ne (fun e=>hne (by rw [e]))⟩,Nat.le_refl _⟩
 rcases lU (enc:=enc) (ke:=ke) s m 0 0 with ⟨_,h2,h3⟩|⟨z,g,_,h2,h3,h4,h5⟩
 ·refine oD rfl (fun _ h=>by cases h) (w':={ w with heap:=w.heap.setIfInBounds b (.map ((gC ke enc m 0).toArray.push { key:=ke s,val:=enc y,born:=m.length }) (m.length+1)) }) ?_ ?_
  ·simp [execOp,Instr.mapUpdate,hA.eval hx,hA.eval hi,hA.eval hv,run_underlying hu,MapKept.run_getObj_map hb,hck,MapKept.run_findKey hk h2,hset]
  refine h _ _ (hS.step hσ (hgr _) ?_ (fun b' hb'=>.inl hb')) hA;show (w.heap.setIfInBounds b _)[b]?=_;have e:=oN (ke:=ke) (enc:=enc) s y m 0;rw [h3 y];simp only [Array.getElem?_setIfInBounds_self_of_lt hlt,e];simp
 obtain ⟨h6,h7⟩:=h5 y;refine oD rfl (fun _ h=>by cases h) (w':={ w with heap:=w.heap.setIfInBounds b (.map ((gC ke enc m 0).set g { key:=ke s,val:=enc y,born:=g }).toArray m.length) }) ?_ ?_
 ·have hj:(gC ke enc m 0).toArray[g]?=some { key:=ke s,val:=enc z,born:=0+g }:=by simpa using h4
  have hlen:=jT ke enc m 0;have hmodL:(gC ke enc m 0).modify g (fun e=>{ key:=ke s,val:=enc y,born:=e.born })=(gC ke enc m 0).set g { key:=ke s,val:=enc y,born:=g }:=by
   apply List.ext_getElem?;intro i;rw [List.getElem?_modify];by_cases e:g=i
   ·subst e;rw [h4];simp [hlen,h3]
   simp [e,List.getElem?_set_ne e]
  have hj0:(gC ke enc m 0)[g]?=some { key:=ke s,val:=enc z,born:=0+g }:=h4;simp [execOp,Instr.mapUpdate,hA.eval hx,hA.eval hi,hA.eval hv,run_underlying hu,MapKept.run_getObj_map hb,hck,MapKept.run_findKey hk h2,hj0,MapKept.run_keyThatStays (oM.is (ke:=ke) s),hset];rw [hmodL]
 refine h _ _ (hS.step hσ (hgr _) ?_ (fun b' hb'=>.inl hb')) hA;show (w.heap.setIfInBounds b _)[b]?=_;simp only [Array.getElem?_setIfInBounds_self_of_lt hlt,h6,h7,Nat.zero_add]
end
end Pk
namespace Pk
open Go Go.Proofs Go.Sort
section
variable {P:Program} {r:Option Nat} {n:aV} {p:List PanicEntry→aV} {ops:Array Oper} {rest:List Oper} {d:Nat} {ty:TypeId} {pos:String} {af:Array Edge} {x:Fr} {Hs:List Hp} {σ:aM} {L:cB}
end
end Pk
namespace Pk
open Go Go.Proofs
abbrev gE (a b:List Value):List Value:=a++b
theorem aN.arr {H:Hp} {q:Addr} {cs:List Value} (h:aN H q cs) (j:Nat) {v:Value} (hv:cs[j]?=some v):aN H (q.add (j*1)) [v]:=by
 rw [Nat.mul_one];have h1:=h.drop j;refine ⟨h1.1,fun i u hu=>?_⟩
 cases i with
 | zero =>
  simp only [List.getElem?_cons_zero,Option.some.injEq] at hu;subst hu;exact h1.2 0 v (by rw [List.getElem?_drop];simpa using hv)
 | succ i=>simp at hu
section
variable {P:Program} {r:Option Nat} {n:aV} {p:List PanicEntry→aV} {ops:Array Oper} {rest:List Oper} {d:Nat} {ty:TypeId} {pos:String} {af:Array Edge} {x:Fr} {Hs:List Hp} {σ:aM} {L:cB}
theorem vC (tg:Nat) (pre xs:List Value) {xs':List Value} {t t0:TypeId} {y z:Operand} {v:Value} {b j:Nat} (hs:∀ w,(Go.sizeOf t).run P w=.ok 1 w) (hy:ev L y=some (.pointer (some ((⟨b,pre.length,none⟩:Addr).add (j*1))))) (hz:ev L z=some v) (hσ:cJ σ tg=some (bE b t0 (pre++xs))) (hv:bX v=[v]) (h1:v.oneCell'=true) (hj:j<xs.length) (hl:xs.set j v=xs') (h:OG P r ops n p x Hs (dP σ tg (bE b t0 (pre++xs'))) L rest):OG P r ops n p x Hs σ L (⟨none,.store t y z,ty,pos,af,none⟩::rest):=fun c w hS hA=>by
 rw [Nat.mul_one,eA rfl] at hy;have hfit:pre.length+j+1≤(pre++xs).length:=by rw [List.length_append];omega
 refine mZ tg hA hS hy hz hs hσ hv rfl (by simpa using h1) (Nat.ble_eq_true_of_le hfit) fun w' hS' c hA=>h c w' ?_ hA;have e:lF (pre++xs) (pre.length+j) [v]=pre++xs':=by
  rw [fP _ _ _ (by simpa using hfit),← hl,List.take_append,List.drop_append,List.set_eq_take_append_cons_drop,if_pos hj];simp [List.take_of_length_le,List.drop_eq_nil_of_le,Nat.add_assoc,Nat.add_sub_cancel_left]
 rw [← e];exact hS'
end
section
variable {M:Prop} {w0:World} {H0:Hp} {Hs:List Hp} {σ:aM} {w:World}
theorem St.stepB (hM:¬M) (h:St M w0 H0 Hs σ w) {t:Nat} {x y:aP} (hx:cJ σ t=some x) {w':World} (hw:w.grownBy w' x.foot) (hy:y.holds w') (hf:∀ b,y.foot=some b→x.foot=some b∨w.heap.size≤b) :
  St M w0 H0 Hs (dP σ t y) w':=by
 have hxm:=dR hx;have hxo:=h.own t x hxm;have hsz:=hw.size;have hyM:∀ b,y.foot=some b→w0.heap.size≤b:=fun b hb=>by
  rcases hf b hb with h1|h1
  ·exact hxo.2 b h1
  exact Nat.le_trans h.ext.size h1
 have hext:gP M w0 w':=by
  refine ⟨hw.os.trans h.ext.os,hw.tape.trans h.ext.tape,hw.output.trans h.ext.output,Nat.le_trans h.ext.size hw.size,fun b hb=>?_,fun q=>absurd q hM⟩;refine (hw.block b (Nat.lt_of_lt_of_le hb h.ext.size) ?_).trans (h.ext.keep b hb);intro e;have:=hxo.2 b e.symm;omega
 refine ⟨h.h0,hext,?_,?_,?_⟩
 ·intro H hH b o hb;have hb1:=h.le H hH b o hb;unfold iA at hb1 ⊢
  split at hb1
  ·cases hb1
  rename_i hnf
  have hne:some b≠x.foot:=fun e=>hnf ⟨t,x,hxm,e.symm⟩;have hnf':¬iI (dP σ t y) b:=by
   rintro ⟨i,z,hz,hzf⟩;rcases kC hx hz with rfl|h1
   ·rcases hf b hzf with h2|h2
    ·exact hne h2.symm
    split at hb1
    ·rename_i hlt;have:=h.ext.size;omega
    have:=(Array.getElem?_eq_some_iff.1 hb1).1;omega
   exact hnf ⟨i,z,h1,hzf⟩
  rw [if_neg hnf']
  split at hb1
  ·rename_i hlt;rw [if_pos hlt];exact hb1
  rename_i hlt
  rw [if_neg hlt];have hlt':b<w.heap.size:=(Array.getElem?_eq_some_iff.1 hb1).1;exact (hw.block b hlt' hne).trans hb1
 ·intro i z hz;rcases mJ h.apart hx i z hz with rfl|hap
  ·exact ⟨hy,hyM⟩
  rcases kC hx hz with rfl|hzm
  ·exact ⟨hy,hyM⟩
  refine ⟨aP.kept (h.own i z hzm).1 (fun b hb=>hw.block b (aP.lt (h.own i z hzm).1 hb) (fun e=>hap b e.symm hb)),(h.own i z hzm).2⟩
 refine hD.set h.apart hx ?_;intro i z hz hap b hyb hzb;rcases hf b hyb with h1|h1
 ·exact hap b h1 hzb
 have:=aP.lt (h.own i z hz).1 hzb;omega
end
section
variable {P:Program} {r:Option Nat} {n:aV} {p:List PanicEntry→aV} {ops:Array Oper} {rest:List Oper} {d:Nat} {ty:TypeId} {pos:String} {af:Array Edge} {x:Fr} {Hs:List Hp} {σ:aM} {L:cB}
theorem oT (l:aE):l.flatMap cH=l.map fun c=>Value.int .u8 c.toNat:=by
 induction l with
 | nil=>rfl
 | cons c l ih=>simp [List.flatMap_cons,cH,ih]
theorem apT (hM:¬x.M) (tg:Nat) {l s:aE} {t u el:TypeId} {i:TypeInfo} {y z:Operand} {ad:Option Addr} {cap nn:Nat} (ht:P.underlying t=some (.slice el)) (hu:P.underlying u=some .string) (hi:P.info? el=some i) (hz0:i.zero=some (.int .u8 0)) (hsz:i.size=1) (hby:i.bytes=1)
  (hd:Nat.blt d x.k=true) (hs:ev L y=some (.slice ad nn cap)) (hz:ev L z=some (.string (bs s))) (hσ:cJ σ tg=some (.list ad cap el 1 cH l)) (hn:nn=l.length) (hb:l.length+s.length≤1073741824)
  (h:∀ ad' cap',OG P r ops n p x Hs (dP σ tg (.list ad' cap' el 1 cH (l++s))) ((d,.slice ad' (l++s).length cap')::L) rest) :
  OG P r ops n p x Hs σ L (⟨some d,.call ⟨.builtin .append,#[y,z],#[t,u]⟩,ty,pos,af,none⟩::rest):=fun a w hS hA=>by
 subst hn;have hown:w.ownsRow 0 el 1 (.slice ad l.length cap) l.length (l.flatMap cH):=hS.get hσ;have hb2:(bs s).size=s.length:=fV s;obtain ⟨v',w',hrun,ho,hg,_⟩:=Lib.run_append_own_string (P:=P) (w:=w) 0 t u ty el i ht hu hi hz0 hsz hby (.slice ad l.length cap) l.length (l.flatMap cH) hown (bs s) (by unfold maxLen;omega) (by omega) (Nat.zero_le _);have hcells:l.flatMap cH++Lib.strCells (bs s)=(l++s).flatMap cH:=by
  rw [oT,oT,List.map_append,Lib.strCells,show (bs s).data.toList=s by simp [bs]]
 have hlen:l.length+(bs s).size=(l++s).length:=by rw [hb2,List.length_append]
 rw [hcells,hlen] at ho;obtain ⟨ad',cap',rfl⟩:∃ ad' cap',v'=.slice ad' (l++s).length cap':=by
  rcases ho.2 with ⟨hv,h0⟩|⟨g,cap,cur,hv,_⟩
  ·exact ⟨none,0,by rw [hv,h0]⟩
  exact ⟨_,_,hv⟩
 refine cQ rfl (fun _ h=>by cases h) (w':=w') (v:=.slice ad' (l++s).length cap') ?_ (h ad' cap' _ w' ?_ (hA.put hd _))
 ·simp [execOp,resolve,invoke,builtin,hA.eval hs,hA.eval hz];rw [show l.length+s.length=(l++s).length by simp,hrun];rfl
 refine hS.stepB hM hσ (x:=.list ad cap el 1 cH l) ?_ ho fun b hb=>?_
 ·have:(aP.list ad cap el 1 cH l).foot=(Value.slice ad l.length cap).ownBlock:=by cases ad <;> rfl
  rw [this];exact hg
 rcases hown.2 with ⟨hv,_⟩|⟨g,cap2,cur,hv,hbg,hg0,hnc,hcm,hcs,ht'⟩
 ·right;simp only [Value.slice.injEq] at hv;obtain ⟨rfl,hl0,rfl⟩:=hv;have hl:l=[]:=List.eq_nil_of_length_eq_zero hl0;subst hl;obtain ⟨v2,w2,hrun2,ho2,_,_⟩:=Lib.run_append_own_string (P:=P) (w:=w) w.heap.size t u ty el i ht hu hi hz0 hsz hby (.slice none 0 0) 0 [] (World.ownsRow_nil w w.heap.size el 1) (bs s) (by unfold maxLen;omega) (by omega) (Nat.le_refl _);have e:=hrun.symm.trans hrun2;simp only [Result.ok.injEq] at e;obtain ⟨rfl,rfl⟩:=e;rcases ho2.2 with ⟨hv,_⟩|⟨g,cap3,cur,hv,hg3,_⟩
  ·simp only [Value.slice.injEq] at hv;obtain ⟨rfl,_,rfl⟩:=hv;cases hb
  simp only [Value.slice.injEq] at hv;obtain ⟨rfl,_,rfl⟩:=hv;simp only [aP.foot,Option.map_some,Option.some.injEq] at hb;omega
 simp only [Value.slice.injEq] at hv;obtain ⟨rfl,_,rfl⟩:=hv;by_cases hroom:l.length+(bs s).size≤cap
 ·have:=Lib.run_append_room_string (P:=P) w t u ty el i ht hu hi hsz g l.length cap cur hg0 (bs s) hroom (by omega);have e:=hrun.symm.trans this;simp only [Result.ok.injEq,Value.slice.injEq] at e;obtain ⟨⟨rfl,_,rfl⟩,_⟩:=e;left;exact hb
 have holds:∀ j u,(l.flatMap cH)[j]?=some u→w.cell? ((⟨g,0,none⟩:Addr).add j)=some u:=hown.cells (g:=g) rfl;have hxl:(l.flatMap cH).length=l.length:=by rw [oT,List.length_map]
 have:=Lib.run_append_grow_string (P:=P) w t u ty el i (.int .u8 0) ht hu hi hz0 ⟨g,0,none⟩ l.length cap (l.flatMap cH) (by rw [hsz];simpa using hxl) holds (bs s) (by omega) (by omega) (by rw [hby];exact growslice_fits (by omega) (by omega));have e:=hrun.symm.trans this;simp only [Result.ok.injEq,Value.slice.injEq] at e;obtain ⟨⟨rfl,_,_⟩,_⟩:=e;right;simp only [aP.foot,Option.map_some,Option.some.injEq] at hb;omega
end
section
variable {P:Program} {f:FuncId} {args:Array Value} {M:Prop} {W:World} {H:Hp} {α:Type}
theorem iX {g:α→Value} {tv:Value} {r:α} (h:Calls P f args W (wW M W g tv (.inl r))):Calls P f args W (bJ M W (g r)):=h.mono fun e w h=>by
 obtain ⟨rfl,h⟩:=h;exact ⟨rfl,h⟩
theorem iY {g:α→Value} {tv:Value} {u:Unit} (h:Calls P f args W (wW M W g tv (.inr u))):Calls P f args W (fun e w=>e=.panicked (IJ tv)∧gP M W w):=h
end
section
variable {P:Program} {r:Option Nat} {n:aV} {p:List PanicEntry→aV} {ops:Array Oper} {rest:List Oper} {dst:Option Nat} {ty:TypeId} {pos:String} {af:Array Edge} {x:Fr} {Hs:List Hp} {σ:aM} {L:cB}
theorem eG {y:Operand} {xs:List Operand} {ats:Array TypeId} {f:FuncId} {first cap:List Value} {vs args:List Value} {tv:Value} (hcall:∀ args w,(callFunc f args).run P w=.ok (.enter f args) w) (hf:ev L y=some (.func (.func f) first.toArray cap.toArray)) (hxs:mD L xs=some vs) (hargs:first++vs++cap=args)
  (hc:∀ w (H:Hp),H.le (hp w)→mM Hs H→Calls P f args.toArray w (fun e w'=>e=.panicked (IJ tv)∧gP x.M w w')) (h:TG x Hs σ L (p (IJ tv))):OG P r ops n p x Hs σ L (⟨dst,.call ⟨.value y,xs.toArray,ats⟩,ty,pos,af,none⟩::rest):=fun a w hS hA=>by
 subst hargs;refine iM rfl (fun _ h=>by cases h) (gJ hA hf hxs hcall) (by simpa using hc w (iA x.w0 x.H0 σ w) hS.vis_le fun i K hi=>hS.at i hi) ?_ ?_ ?_
 ·rintro v w' ⟨e,_⟩;cases e
 ·rintro ch w' ⟨e,hE⟩;cases e;exact h a w' (hS.ext' hE) hA
 rintro w' ⟨e,_⟩;cases e
end
def WO (P:Program) (fn:Func) (R:Ending→World→Prop):aV:=fun a w=>Leaves P fn a.tmps R a.defers .returning w
def WP (P:Program) (fn:Func) (R:Ending→World→Prop):List PanicEntry→aV:=fun ch a w=>Leaves P fn a.tmps R a.defers (.panicking ch) w
abbrev OL (f:FuncId) (cap:List Value):Deferred:={ target:=.fn (.func f) cap.toArray,args:=#[] }
section
variable {P:Program} {f:FuncId} {fn:Func} {c:Code} {nt:Nat} {w:World} {R:Ending→World→Prop}
theorem QO {l:List Value} (hf:P.funcs[f]?=some fn) (hb:fn.body=some c) (hn:fn.ntmps=nt) (hl:Nat.ble l.length nt=true)
  (h:∀ a,bQ [] nt a (jB 0 l)→W P none c (fun _ _=>False) (WO P fn R) [] (WP P fn R) a w):Calls P f l.toArray w R:=by
 have hl':l.length≤nt:=by simpa using hl
 have h1:=h { tmps:=l.toArray++Array.replicate (fn.ntmps-l.toArray.size) undef,defers:=[] } ⟨rfl,by simp [hn];omega,fun i v hi=>by
  obtain ⟨_,h2⟩:=mV l 0 i v hi;simp only [Nat.sub_zero] at h2;have hlt:i<l.length:=(List.getElem?_eq_some_iff.1 h2).1;rw [Array.getElem?_append_left (by simpa using hlt)]
  simpa using h2⟩
 refine calls_of_wp_defers hf hb ((wpIn_wide (n:=0)).1 (wpIn_mono h1 ?_));intro z a w hz
 cases z with
 | normal=>exact hz.elim
 | ret=>exact hz
 | panic ch=>exact hz
 | exit id=>obtain ⟨K,hK,_⟩:=hz;simp [uD] at hK
 | goto l=>exact hz
 | outgrown=>exact hz.elim
end
section
variable {P:Program} {n:aV} {p:List PanicEntry→aV} {ops:Array Oper} {rest:List Oper} {ty:TypeId} {pos:String} {af:Array Edge} {x:Fr} {Hs:List Hp} {σ:aM} {L:cB} {D:List Deferred} {k:Nat} {M:Prop} {w0:World} {H0:Hp} {fn:Func} {R:Ending→World→Prop}
theorem df {f:FuncId} {cap:List Value} {y:Operand} (hy:ev L y=some (.func (.func f) #[] cap.toArray)) (h:TG ⟨OL f cap::D,k,M,w0,H0⟩ Hs σ L (O P none ops n p rest)) :
  OG P none ops n p ⟨D,k,M,w0,H0⟩ Hs σ L (⟨none,.defer ⟨.value y,#[],#[]⟩,ty,pos,af,none⟩::rest):=fun a w hS hA=>by
 show O P none ops n p _ a w;simp only [O,Region.wanted,if_true];refine ⟨fun _ _=>trivial,?_⟩;rw [show (FW none).round=none from rfl,Oper.semAt_none];have hr:(execOp a.eval ⟨none,.defer ⟨.value y,#[],#[]⟩,ty,pos,af,none⟩).run P w=.ok (.defer (OL f cap)) w:=by
  simp [execOp,resolve,hA.eval hy,Deferred.ofValue]
 rw [hr];show O P none ops n p rest _ w;refine h _ w hS ⟨?_,?_,?_⟩
 ·simp [Act.put,hA.defers]
 ·simpa [Act.put] using hA.size
 intro i v hi;simpa [Act.put] using hA.get i v hi
theorem rtF {f:FuncId} {cap:List Value} (hcall:∀ args w,(callFunc f args).run P w=.ok (.enter f args) w)
  (hc:∀ w,St M w0 H0 Hs σ w→CallsD P f cap.toArray .returning w (fun e u w'=>(∃ v,e=.returned v)∧u=.returning∧St M w0 H0 Hs σ w')) (h:TG ⟨[],k,M,w0,H0⟩ Hs σ L (Rt P fn R)):TG ⟨[OL f cap],k,M,w0,H0⟩ Hs σ L (WO P fn R):=fun a w hS hA=>by
 unfold WO;rw [hA.defers];refine leaves_cons (f:=f) (args:=cap.toArray) (by simp) (by simp [invoke,hcall]) ((hc w hS).mono ?_);rintro e u w' ⟨⟨v',rfl⟩,rfl,hS'⟩;obtain ⟨_,v,h1,h2⟩:=h { a with defers:=[] } w' hS' ⟨rfl,hA.size,hA.get⟩;exact ⟨v,h1,h2⟩
theorem pnF {f:FuncId} {cap:List Value} {ch:List PanicEntry} {σ':Nat→List Value→aM} (hcall:∀ args w,(callFunc f args).run P w=.ok (.enter f args) w)
  (hc:∀ w,St M w0 H0 Hs σ w→CallsD P f cap.toArray (.panicking ch) w (fun e u w'=>(∃ v,e=.returned v)∧settle u=.returning∧∃ b cs,St M w0 H0 Hs (σ' b cs) w')) (h:∀ b cs,TG ⟨[],k,M,w0,H0⟩ Hs (σ' b cs) L (Rt P fn R)):TG ⟨[OL f cap],k,M,w0,H0⟩ Hs σ L (WP P fn R ch):=fun a w hS hA=>by
 unfold WP;rw [hA.defers];refine leaves_cons (f:=f) (args:=cap.toArray) (by simp) (by simp [invoke,hcall]) ((hc w hS).mono ?_);rintro e u w' ⟨⟨v',rfl⟩,hu,b,cs,hS'⟩;obtain ⟨_,v,h1,h2⟩:=h b cs { a with defers:=[] } w' hS' ⟨rfl,hA.size,hA.get⟩;simp only [hu];exact ⟨v,h1,h2⟩
end
section
variable {κ ι β:Type}
variable {ent:ι→β→List aP} {hv:ι→β→Value} {hs:List (κ×Value)} {az:List ι} {m:List (κ×β)}
variable [DecidableEq κ]
end
section
variable {x:Fr} {Hs:List Hp} {σ:aM} {L:cB} {N:aV}
end
section
variable {κ α:Type} {ke:κ→Value} {el:TypeId} {size:Nat} {enc:α→List Value}
variable {x:Fr} {Hs:List Hp} {L:cB} {N:aV} {hs:List (κ×Value)} {az:List gD} {m:List (κ×List α)}
variable [DecidableEq κ]
section
variable {P:Program} {r:Option Nat} {n:aV} {p:List PanicEntry→aV} {ops:Array Oper} {rest:List Oper} {kd:TypeDesc} [oM ke kd]
end
end
section
variable {P:Program} {r:Option Nat} {n:aV} {p:List PanicEntry→aV} {ops:Array Oper} {rest:List Oper} {d:Nat} {ty:TypeId} {pos:String} {af:Array Edge} {x:Fr} {Hs:List Hp} {σ:aM} {L:cB}
theorem QP {κ:Type} {ke:κ→Value} {kd:TypeDesc} [DecidableEq κ] [oM ke kd] (s:κ) {z0 v':Value} {t kt et:TypeId} {y i:Operand} {v:Value} {m:List (κ×Value)} (hu:P.underlying t=some (.map kt et)) (hk:P.underlying kt=some kd) (hz:∀ w,(zeroValue et).run P w=.ok z0 w) (hd:Nat.blt d x.k=true) (hy:ev L y=some v) (hi:ev L i=some (ke s)) (hm:Ms x Hs σ ke (fun v=>v) v m) (e:(eN m s).getD z0=v')
  (h:OG P r ops n p x Hs σ ((d,v')::L) rest):OG P r ops n p x Hs σ L (⟨some d,.lookup t y i false,ty,pos,af,none⟩::rest):=by
 subst e;exact JQ (enc:=fun v=>v) s hu hk hz hd hy hi rfl hm h
end
theorem DN {size off:Nat} {cs cs1 c:List Value} {css:List (List Value)} {j:Nat} (hcss:∀ c∈css,c.length=size) (hj:css[j]?=some c) (hl:off+cs.length≤size) (hs:lF c off cs=cs1) (h1:cs1.length=size):lF css.flatten (j*size+off) cs=(css.set j cs1).flatten:=by
 obtain ⟨l',rfl⟩:∃ l':List {c:List Value // c.length=size},css=l'.map Subtype.val:=⟨css.attach.map fun c=>⟨c.1,hcss _ c.2⟩,by simp⟩;rw [List.getElem?_map] at hj;obtain ⟨c',hc',rfl⟩:=Option.map_eq_some_iff.1 hj;have:=qI (enc:=Subtype.val) (fun x:{c:List Value // c.length=size}=>x.2) ⟨cs1,h1⟩ off cs l' j c' hc' hl hs;rw [List.flatMap_def,List.flatMap_def,List.map_set] at this;exact this
theorem Rows.set {α:Type} {R:Hp→List Value→α→Prop} {size:Nat} {K:Hp} {cs1:List Value} {y:α} (h1:cs1.length=size) (h2:cs1.all (·.oneCell')=true) (h3:R K cs1 y):∀ {css:List (List Value)} {l:List α} (j:Nat),Rows R size K css l→Rows R size K (css.set j cs1) (l.set j y)
 | [],[],_,_=>trivial
 | cs::css,x::l,0,h=>⟨⟨h1,h2,h3⟩,h.2⟩
 | cs::css,x::l,j+1,h=>⟨h.1,Rows.set h1 h2 h3 j h.2⟩
 | [],_::_,_,h=>h.elim
 | _::_,[],_,h=>h.elim
theorem Rows.all {α:Type} {R:Hp→List Value→α→Prop} {size:Nat} {K:Hp}:∀ {css:List (List Value)} {l:List α},Rows R size K css l→∀ c∈css,c.length=size
 | [],[],_,c,h=>by simp at h
 | cs::css,x::l,h,c,hc=>by
  rcases List.mem_cons.1 hc with rfl|hc
  ·exact h.1.1
  exact Rows.all h.2 c hc
 | [],_::_,h,_,_=>h.elim
 | _::_,[],h,_,_=>h.elim
section
variable {P:Program} {r:Option Nat} {n:aV} {p:List PanicEntry→aV} {ops:Array Oper} {rest:List Oper} {d:Nat} {ty:TypeId} {pos:String} {af:Array Edge} {x:Fr} {Hs:List Hp} {σ:aM} {L:cB}
theorem stR (tg:Nat) {α:Type} {R:Hp→List Value→α→Prop} {K:Hp} (y:α) (cs1:List Value) {l:List α} {css:List (List Value)} {c0:List Value} {t t0:TypeId} {u z:Operand} {v:Value} {cs:List Value} {q:Addr} {cap size j off s:Nat} (hs:∀ w,(Go.sizeOf t).run P w=.ok s w) (hu:ev L u=some (.pointer (some (q.add (j*size+off))))) (hz:ev L z=some v) (hσ:cJ σ tg=some (.rows (some q) cap t0 size css l)) (hR:Rows R size K css l) (hj:css[j]?=some c0) (hv:bX v=cs) (hcl:cs.length=s) (h1:cs.all (·.oneCell')=true) (hfit:Nat.ble (off+s) size=true) (hsp:lF c0 off cs=cs1) (hc1:cs1.length=size)
  (h:OG P r ops n p x Hs (dP σ tg (.rows (some q) cap t0 size (css.set j cs1) (l.set j y))) L rest):OG P r ops n p x Hs σ L (⟨none,.store t u z,ty,pos,af,none⟩::rest):=fun c w hS hA=>by
 have hfit':off+s≤size:=by simpa using hfit
 have hlt:=aT hj;have hle:(j+1)*size≤css.length*size:=Nat.mul_le_mul_right _ hlt;rw [Nat.add_mul] at hle;have hfl:css.flatten.length=css.length*size:=by
  have:∀ (l:List (List Value)),(∀ c∈l,c.length=size)→l.flatten.length=l.length*size:=by
   intro l hl
   induction l with
   | nil=>simp
   | cons a l ih=>simp [ih (fun c hc=>hl c (List.mem_cons_of_mem _ hc)),hl a List.mem_cons_self,Nat.add_mul,Nat.add_comm]
  exact this css hR.all
 have hsf:=DN hR.all hj (by omega) hsp hc1;refine uG tg hA hS hu hz hs hσ hv hcl h1 (by rw [hfl];omega) fun w' hS c hA=>?_;rw [hsf] at hS;refine h c w' ?_ hA;have e:(l.set j y).length=l.length:=by simp
 unfold aP.rows;rw [e];exact hS
end
section
variable {κ ι β:Type} {ent:ι→β→List aP} {hv:ι→β→Value} {hs:List (κ×Value)} {az:List ι} {m:List (κ×β)}
variable {x:Fr} {Hs:List Hp} {L:cB} {N:aV}
end
section
variable {S ρ:Type}
variable {n:Nat} {step:S→Nat→Option (S⊕ρ)} {Kf:S→Option ρ} {s0:S} {z:ρ}
variable {seen:List Nat} {s:S}
end
section
variable {P:Program} {r0:Option Nat} {nn rt:aV} {e:List (Nat×aV)} {p:List PanicEntry→aV} {ops:Array Oper} {rest:List Oper} {d:Nat} {ty:TypeId} {pos:String} {af:Array Edge} {x:Fr} {Hs:List Hp} {σ:aM} {L:cB}
variable {κ:Type} {ke:κ→Value} {hs:List (κ×Value)} {b n:Nat}
end
section
variable {P:Program} {r:Option Nat} {n:aV} {p:List PanicEntry→aV} {ops:Array Oper} {rest:List Oper} {d:Nat} {ty:TypeId} {pos:String} {af:Array Edge} {x:Fr} {Hs:List Hp} {σ:aM} {L:cB}
theorem St.mk1 {M:Prop} {w0 w:World} {H0 V:Hp} (hS:St M w0 H0 Hs σ w) (hV:V=iA w0 H0 σ w):St M w0 H0 [V] σ w:=⟨hS.h0,hS.ext,fun H hH=>(by
 rcases List.mem_cons.1 hH with rfl|h
 ·rw [hV];exact Hp.le.refl _
 cases h),hS.own,hS.apart⟩
theorem cV {M:Prop} {f:FuncId} {fn:Func} {c:Code} {nt:Nat} {w w0:World} {H0:Hp} {R:Ending→World→Prop} {l:List Value} (hf:P.funcs[f]?=some fn) (hb:fn.body=some c) (hn:fn.ntmps=nt) (hl:Nat.ble l.length nt=true) (hS:St M w0 H0 Hs σ w)
  (h:TG ⟨[],nt,M,w0,H0⟩ Hs σ (jB 0 l) (W P none c (Rt P fn R) (Rt P fn R) [] (fun ch a w=>a.defers=[]∧R (.panicked ch) w))):Calls P f l.toArray w R :=
 enter hf hb hn hl fun a hA=>h a w hS hA
def QQ (M:Prop) (w0:World) (H0 V:Hp) (σ:aM) (Ψ:Value→Hp→Prop):Ending→World→Prop:=fun e w'=>∃ v K,e=.returned v∧St M w0 H0 [K,V] σ w'∧Ψ v K
theorem clQ (t:Nat) {o:aP} {y:Operand} {xs:List Operand} {ats:Array TypeId} {f:FuncId} {first cap:List Value} {vs args:List Value} {Ψ:Value→Hp→Prop} (hcall:∀ args w,(callFunc f args).run P w=.ok (.enter f args) w) (hf:ev L y=some (.func (.func f) first.toArray cap.toArray)) (hxs:mD L xs=some vs) (hargs:first++vs++cap=args) (hd:Nat.blt d x.k=true) (hσ:cJ σ t=some o)
  (hc:∀ w V σr,St x.M x.w0 x.H0 [V] ((1,o)::σr) w→mM Hs V→Calls P f args.toArray w (QQ x.M x.w0 x.H0 V ((1,o)::σr) Ψ)) (h:∀ v K,Ψ v K→OG P r ops n p x (K::Hs) σ ((d,v)::L) rest):OG P r ops n p x Hs σ L (⟨some d,.call ⟨.value y,xs.toArray,ats⟩,ty,pos,af,none⟩::rest):=fun a w hS hA=>by
 subst hargs;have hS1:St x.M x.w0 x.H0 Hs ((1,o)::eC σ t) w:=hS.permO (by simpa using lW hσ);obtain ⟨V,hV⟩:∃ V,V=iA x.w0 x.H0 ((1,o)::eC σ t) w:=⟨_,rfl⟩;have hle:∀ (i:Nat) (K:Hp),Hs[i]?=some K→K.le V:=fun i K hi=>by rw [hV];exact hS1.at i hi
 refine iM rfl (fun _ h=>by cases h) (gJ hA hf hxs hcall) (by simpa using hc w V _ (hS1.mk1 hV) hle) ?_ ?_ ?_
 ·rintro v w' ⟨v',K,e,hS',hΨ⟩;cases e
  have hS2:St x.M x.w0 x.H0 (K::Hs) ((1,o)::eC σ t) w':=⟨hS'.h0,hS'.ext,fun H hH=>(by
   rcases List.mem_cons.1 hH with rfl|hH
   ·exact hS'.le _ List.mem_cons_self
   obtain ⟨i,hi⟩:=List.getElem?_of_mem hH
   exact (hle i H hi).trans (hS'.le _ (List.mem_cons_of_mem _ List.mem_cons_self))),hS'.own,hS'.apart⟩
  exact h _ K hΨ _ w' (hS2.permO (by simpa using (lW hσ).symm)) (hA.put hd _)
 ·rintro ch w' ⟨v',K,e,_⟩;cases e
 rintro w' ⟨v',K,e,_⟩;cases e
theorem Rows.pairs {α:Type} {R:Hp→List Value→α→Prop} {size:Nat} {K:Hp}:∀ {css:List (List Value)} {l:List α},Rows R size K css l→∃ ll:List {p:List Value×α // p.1.length=size∧p.1.all (·.oneCell')=true∧R K p.1 p.2},ll.map (·.1.1)=css∧ll.map (·.1.2)=l
 | [],[],_=>⟨[],rfl,rfl⟩
 | cs::css,x::l,h=>by
  obtain ⟨ll,h1,h2⟩:=Rows.pairs h.2;exact ⟨⟨(cs,x),h.1⟩::ll,by simp [h1],by simp [h2]⟩
 | [],_::_,h=>h.elim
 | _::_,[],h=>h.elim
theorem zF {α:Type} {R:Hp→List Value→α→Prop} {size:Nat} {K:Hp}:∀ (ll:List {p:List Value×α // p.1.length=size∧p.1.all (·.oneCell')=true∧R K p.1 p.2}),Rows R size K (ll.map (·.1.1)) (ll.map (·.1.2))
 | []=>trivial
 | u::ll=>⟨u.2,zF ll⟩
theorem sB {α β:Type} {g:α→β}:∀ {l:List α},(l.map g).Nodup→∀ {x y:α},x∈l→y∈l→g x=g y→x=y
 | [],_,x,y,h,_,_=>by cases h
 | a::l,hn,x,y,hx,hy,e=>by
  simp only [List.map_cons,List.nodup_cons] at hn;rcases List.mem_cons.1 hx with hx'|hx' <;> rcases List.mem_cons.1 hy with hy'|hy'
  ·rw [hx',hy']
  ·subst hx';exact (hn.1 (List.mem_map.2 ⟨y,hy',e.symm⟩)).elim
  ·subst hy';exact (hn.1 (List.mem_map.2 ⟨x,hx',e⟩)).elim
  exact sB hn.2 hx' hy' e
theorem WQ (tg:Nat) {α:Type} {R:Hp→List Value→α→Prop} {k:Nat} {K:Hp} (i:Nat) (hK:Hs[i]?=some K) (hmono:gB R) {css:List (List Value)} {l l':List α} {f:α→α→Option Int} {fid:Nat} {z y s:Operand} {ats:Array TypeId} {ad:Option Addr} {cap nn:Nat} {el:TypeId} {g:FuncId} {cb:List Value}
  (hC:JX P fid k) (hcall:∀ args w,(callFunc fid args).run P w=.ok (.enter fid args) w) (hd:Nat.blt d x.k=true) (hz:ev L z=some (.func (.func fid) #[] #[])) (hs:ev L s=some (.slice ad nn cap)) (hσ:cJ σ tg=some (.rows ad cap el k css l)) (hR:Rows R k K css l) (hn:nn=l.length) (hy:ev L y=some (.func (.func g) #[] cb.toArray))
  (hF:∀ H,mM Hs H→eP True P H (.func (.func g) #[] cb.toArray) (VY (Vr R) (Vr R) (fun c=>.int .i64 c) f)) (hnd:l.Nodup) (hso:iT f l=some l')
  (h:∀ css',Rows R k K css' l'→OG P r ops n p x Hs (dP σ tg (.rows ad cap el k css' l')) ((d,.tuple #[])::L) rest):OG P r ops n p x Hs σ L (⟨some d,.call ⟨.value z,#[s,y],ats⟩,ty,pos,af,none⟩::rest):=by
 obtain ⟨ll,hc1,hc2⟩:=hR.pairs;obtain ⟨hok,hm⟩:=mN hso;have hlen:ll.length=l.length:=by rw [← hc2];simp
 have hrow:∀ (q:List {p:List Value×α // p.1.length=k∧p.1.all (·.oneCell')=true∧R K p.1 p.2}),aP.rows ad cap el k (q.map (·.1.1)) (q.map (·.1.2))=aP.list ad cap el k (fun u:{p:List Value×α // p.1.length=k∧p.1.all (·.oneCell')=true∧R K p.1 p.2}=>u.1.1) q:=fun q=>by
  unfold aP.rows aP.list;rw [List.length_map,List.flatMap_def]
 have hmem:∀ {u},u∈ll→u.1.2∈l:=fun hu=>by rw [← hc2];exact List.mem_map.2 ⟨_,hu,rfl⟩
 have hok':kR (fun u v:{p:List Value×α // p.1.length=k∧p.1.all (·.oneCell')=true∧R K p.1 p.2}=>f u.1.2 v.1.2) ll:=by
  refine ⟨by rw [hlen];exact hok.small,fun u hu v hv=>hok.some_ _ (hmem hu) _ (hmem hv),fun u hu=>hok.irr _ (hmem hu),fun u hu v hv t ht=>hok.tr _ (hmem hu) _ (hmem hv) _ (hmem ht),fun u hu v hv h1 h2=>?_⟩;have e:=hok.tot _ (hmem hu) _ (hmem hv) h1 h2;exact sB (g:=fun u:{p:List Value×α // p.1.length=k∧p.1.all (·.oneCell')=true∧R K p.1 p.2}=>u.1.2) (by rw [hc2];exact hnd) hu hv e
 have hso':iT (fun u v:{p:List Value×α // p.1.length=k∧p.1.all (·.oneCell')=true∧R K p.1 p.2}=>f u.1.2 v.1.2) ll=some (ll.mergeSort fun u v=>!iW (fun u v:{p:List Value×α // p.1.length=k∧p.1.all (·.oneCell')=true∧R K p.1 p.2}=>f u.1.2 v.1.2) v u):=by
  rw [qL hok']
 have hmap:(ll.mergeSort fun u v=>!iW (fun u v:{p:List Value×α // p.1.length=k∧p.1.all (·.oneCell')=true∧R K p.1 p.2}=>f u.1.2 v.1.2) v u).map (·.1.2)=l':=by
  exact (List.map_mergeSort (f:=fun u:{p:List Value×α // p.1.length=k∧p.1.all (·.oneCell')=true∧R K p.1 p.2}=>u.1.2) (s:=fun x y=>!iW f y x) (fun a _ b _=>rfl)).trans (by rw [hc2,hm])
 refine JZ tg (enc:=fun u:{p:List Value×α // p.1.length=k∧p.1.all (·.oneCell')=true∧R K p.1 p.2}=>u.1.1) (k:=k) (fun u=>u.2.1) (fun u=>u.2.2.1) (l:=ll) (V:=fun _ v u=>v=.agg u.1.1.toArray) (V':=fun _ v u=>v=.agg u.1.1.toArray) hC hcall hd hz hs (by rw [hσ,← hc1,← hc2,hrow]) (by rw [hn,hlen]) hy (fun H le=>?_) (fun _ _=>rfl) (fun _ _=>rfl) hso' ?_
 ·obtain ⟨f0,first,cap0,e,hc,hr⟩:=hF H le;refine ⟨f0,first,cap0,e,hc,?_⟩;rintro w K' args v h1 h2 ⟨u,u',a,a',c,e1,hx,hx',hp,e2⟩;exact hr w K' args v h1 h2 ⟨u,u',a.1.2,a'.1.2,c,e1,⟨_,hx,hmono _ _ _ _ ((le.at i hK).trans h1) a.2.2.2⟩,⟨_,hx',hmono _ _ _ _ ((le.at i hK).trans h1) a'.2.2.2⟩,hp,e2⟩
 have h2:=zF (ll.mergeSort fun u v=>!iW (fun u v:{p:List Value×α // p.1.length=k∧p.1.all (·.oneCell')=true∧R K p.1 p.2}=>f u.1.2 v.1.2) v u);have h3:=hrow (ll.mergeSort fun u v=>!iW (fun u v:{p:List Value×α // p.1.length=k∧p.1.all (·.oneCell')=true∧R K p.1 p.2}=>f u.1.2 v.1.2) v u);rw [hmap] at h2 h3;rw [← h3];exact h _ h2
end
section
variable {P:Program} {n:aV} {p:List PanicEntry→aV} {ops:Array Oper} {rest:List Oper} {d:Nat} {ty:TypeId} {pos:String} {af:Array Edge} {x:Fr} {Hs:List Hp} {σ:aM} {L:cB}
end
section
variable {P:Program} {r:Option Nat} {n:aV} {p:List PanicEntry→aV} {ops:Array Oper} {rest:List Oper} {d:Nat} {ty:TypeId} {pos:String} {af:Array Edge} {x:Fr} {Hs:List Hp} {σ:aM} {L:cB}
end
section
variable {M:Prop} {w0 w:World} {H0:Hp} {Hs:List Hp} {α:Type} {ad:Option Addr} {cap:Nat} {el:TypeId} {size:Nat} {enc:α→List Value} {l l':List α} {t:Nat} {σ:aM}
end
end Pk
namespace Pk
open Go
section
variable {x:Fr} {Hs:List Hp} {σ:aM} {L:cB} {N:aV} {ty:TypeId} {cs:List Value} {b:Nat} {K:Hp}
end
section
variable {P:Program} {r:Option Nat} {n:aV} {p:List PanicEntry→aV} {ops:Array Oper} {rest:List Oper} {d:Nat} {ty:TypeId} {pos:String} {af:Array Edge} {x:Fr} {A:Hp} {Hs:List Hp} {σ:aM} {L:cB}
end
section
variable {x:Fr} {Hs:List Hp} {σ:aM} {L:cB} {N:aV}
end
end Pk
namespace Pk
open Go Go.Proofs
def WR (P:Program) (f:FuncId) (el:TypeId) (k:Nat):Prop :=
 ∀ (w:World) (ad:Option Addr) (cap nn:Nat) (cs:List Value) (j:Nat) (vad:Option Addr) (vcap m:Nat) (vs:List Value),
  (aP.row ad cap el k nn cs).holds w→j≤nn→nn+m≤1073741824→vs.length=m*k→(m=0∨nC (hp w) vad m vcap k vs)→cs.all (·.oneCell')=true→(∀ q,vad=some q→0<m→∀ b,ad.map (·.block)=some b→b≠q.block)→m≤vcap →
  Calls P f #[.slice ad nn cap,.int .i64 j,.slice vad m vcap] w fun e w'=>∃ ad' cap',e=.returned (.slice ad' (nn+m) cap')∧(aP.row ad' cap' el k (nn+m) (cs.take (j*k)++vs++cs.drop (j*k))).holds w'∧lE w w' (ad.map (·.block))∧∀ b,ad'.map (·.block)=some b→ad.map (·.block)=some b∨w.heap.size≤b
section
variable {P:Program} {r:Option Nat} {n:aV} {p:List PanicEntry→aV} {ops:Array Oper} {rest:List Oper} {d:Nat} {ty:TypeId} {pos:String} {af:Array Edge} {x:Fr} {Hs:List Hp} {σ:aM} {L:cB}
theorem DO {α:Type} (tg:Nat) {enc:α→List Value} {k:Nat} (hk0:Nat.blt 0 k=true) (he:∀ x,(enc x).length=k) (h1:∀ x,(enc x).all (·.oneCell')=true) (j:Nat) {xs:List α} {l:List α} {fid:Nat} {z y s v:Operand} {ats:Array TypeId} {ad:Option Addr} {cap nn mm:Nat} {el:TypeId} {vad:Option Addr} {vcap:Nat} {m:Int} {K:Hp}
  (hC:WR P fid el k) (hcall:∀ args w,(callFunc fid args).run P w=.ok (.enter fid args) w) (hd:Nat.blt d x.k=true) (hz:ev L z=some (.func (.func fid) #[] #[])) (hs:ev L s=some (.slice ad nn cap)) (hσ:cJ σ tg=some (.list ad cap el k enc l)) (hn:nn=l.length) (hy:ev L y=some (.int .i64 m)) (hv:ev L v=some (.slice vad mm vcap)) (hmm:mm=xs.length) (hl:Sl (aD enc) k K vad vcap xs) (i:Nat) (hK:Hs[i]?=some K) (hm:m=(j:Int)) (hj:j≤l.length) (hb:l.length+xs.length≤1073741824)
  (h:∀ ad' cap',OG P r ops n p x Hs (dP σ tg (.list ad' cap' el k enc (l.take j++xs++l.drop j))) ((d,.slice ad' (l.take j++xs++l.drop j).length cap')::L) rest):OG P r ops n p x Hs σ L (⟨some d,.call ⟨.value z,#[s,y,v],ats⟩,ty,pos,af,none⟩::rest):=fun a w hS hA=>by
 subst hn;subst hm;subst hmm;have hk:0<k:=by simpa using hk0
 have hrow:=hS.get hσ;have hxs:mD L [s,y,v]=some [.slice ad l.length cap,.int .i64 (j:Int),.slice vad xs.length vcap]:=by simp [mD,hs,hy,hv]
 have hlt:(l.take j++xs++l.drop j).length=l.length+xs.length:=by simp;omega
 have hflat:(l.flatMap enc).take (j*k)++xs.flatMap enc++(l.flatMap enc).drop (j*k)=(l.take j++xs++l.drop j).flatMap enc:=by
  rw [oQ he,oR he];simp
 have hone:(l.flatMap enc).all (·.oneCell')=true:=by
  rw [List.all_eq_true];intro u hu;obtain ⟨y',_,hu⟩:=List.mem_flatMap.1 hu;exact List.all_eq_true.1 (h1 y') u hu
 have hcon:=hC w ad cap l.length (l.flatMap enc) j vad vcap xs.length (xs.flatMap enc) hrow hj hb (jJ he xs) (by
  rcases Nat.eq_zero_or_pos xs.length with h0|h0
  ·exact .inl h0
  ·exact .inr ((nC.mono (hl.src he h1 hk h0) (hS.at i hK)).mono hS.vis_le)) hone (fun q hq h0 b hb' e=>by
  obtain ⟨x1,hx1⟩:=kP h0;obtain ⟨q',cs',e1,hspot,hlen,hcells,hR⟩:=hl.2 0 x1 hx1;have e1':q=q':=by rw [hq] at e1;exact Option.some.inj e1
  subst e1';have e2:q.add (0*k)=q:=by simp [Addr.add]
  rw [e2] at hcells;have hcl:0<cs'.length:=by rw [hlen];exact hk
  obtain ⟨c,ty',fz,h3,_⟩:=(hcells.mono (hS.at i hK)).2 0 _ (List.getElem?_eq_getElem hcl);unfold iA at h3;rw [if_pos ⟨tg,_,dR hσ,by rw [← e];exact hb'⟩] at h3
  cases h3) hl.1.1
 have enterIt:∀ R:Ending→World→Prop,Calls P fid #[.slice ad l.length cap,.int .i64 (j:Int),.slice vad xs.length vcap] w R→(∀ e w',R e w'→∃ ad' cap',e=.returned (.slice ad' (l.length+xs.length) cap')∧St x.M x.w0 x.H0 Hs (dP σ tg (.list ad' cap' el k enc (l.take j++xs++l.drop j))) w')→O P r ops n p (⟨some d,.call ⟨.value z,#[s,y,v],ats⟩,ty,pos,af,none⟩::rest) a w:=fun R hR hk=>by
  refine iM rfl (fun _ h=>by cases h) (gJ (xs:=[s,y,v]) (first:=#[]) (cap:=#[]) hA hz hxs hcall) (by simpa using hR) ?_ ?_ ?_
  ·intro u w' hv;obtain ⟨ad',cap',e,hS'⟩:=hk _ _ hv;cases e;have:=h ad' cap' _ w' hS' (hA.put hd (.slice ad' (l.take j++xs++l.drop j).length cap'));rw [hlt] at this;exact this
  ·intro ch w' hv;obtain ⟨_,_,e,_⟩:=hk _ _ hv;cases e
  intro w' hv;obtain ⟨_,_,e,_⟩:=hk _ _ hv;cases e
 refine enterIt _ hcon fun e w' hw=>?_;obtain ⟨ad',cap',he',hh,hG,hf⟩:=hw;refine ⟨ad',cap',he',?_⟩;refine hS.step hσ hG ?_ hf;unfold aP.list;rw [hlt,← hflat];exact hh
end
section
variable {P:Program} {r:Option Nat} {n:aV} {p:List PanicEntry→aV} {ops:Array Oper} {rest:List Oper} {d:Nat} {ty:TypeId} {pos:String} {af:Array Edge} {x:Fr} {Hs:List Hp} {σ:aM} {L:cB}
end
section
variable {P:Program} {n:aV} {p:List PanicEntry→aV} {ops:Array Oper} {rest:List Oper} {dst:Option Nat} {ty:TypeId} {pos:String} {af:Array Edge} {x:Fr} {Hs:List Hp} {σ:aM} {L:cB} {r:Option Nat}
end
section
variable {P:Program} {a:Act} {w:World} {k:Nat} {L:cB}
end
section
variable {P:Program} {r:Option Nat} {n:aV} {p:List PanicEntry→aV} {ops:Array Oper} {rest:List Oper} {d:Nat} {ty:TypeId} {pos:String} {af:Array Edge} {x:Fr} {Hs:List Hp} {σ:aM} {L:cB}
end
def fI (M:Prop) (w0:World) (H0 V:Hp) (B:aM) (Φ:Ending→Hp→aM→Prop):Ending→World→Prop:=fun e w'=>∃ K A',St M w0 H0 [K,V] (A'++B) w'∧Φ e K A'
def sC {α:Type} (F:α→Ending→Hp→aM→Prop) (tv:Int→Value) (A:aM):α⊕Int→Ending→Hp→aM→Prop
 | .inl y=>F y
 | .inr u=>fun e _ A'=>e=.panicked (IJ (tv u))∧A'=A
section
variable {P:Program} {r:Option Nat} {n:aV} {p:List PanicEntry→aV} {ops:Array Oper} {rest:List Oper} {dst:Option Nat} {ty:TypeId} {pos:String} {af:Array Edge} {x:Fr} {Hs:List Hp} {σ:aM} {L:cB} {N:aV}
theorem TG.front (t:Nat) {o:aP} (h0:cJ σ t=some o) (h:TG x Hs ((t,o)::eC σ t) L N):TG x Hs σ L N:=TG.permO (by simpa using lW h0) h
def Bhd (P:Program) (r:Option Nat) (ops:Array Oper) (n:aV) (p:List PanicEntry→aV) (rest:List Oper) (dst:Option Nat) (e:Ending):aV:=fun a w=>match e with
 | .returned v=>O P r ops n p rest (a.put dst v) w
 | .panicked ch=>p ch a w
 | .outgrown=>False
theorem wD {v:Value} {a:Act} {w:World} (h:O P r ops n p rest (a.put dst v) w):Bhd P r ops n p rest dst (.returned v) a w:=h
theorem QR {ch:List PanicEntry} {a:Act} {w:World} (h:p ch a w):Bhd P r ops n p rest dst (.panicked ch) a w:=h
theorem qP (A:aM) {B:aM} {y:Operand} {xs:List Operand} {ats:Array TypeId} {f:FuncId} {first cap:List Value} {vs args:List Value} {fv:Value} {Φ:Ending→Hp→aM→Prop} (hσ:(A++B).map Prod.snd=σ.map Prod.snd) (hcall:∀ args w,(callFunc f args).run P w=.ok (.enter f args) w) (hf:ev L y=some fv) (hfv:fv=.func (.func f) first.toArray cap.toArray) (hxs:mD L xs=some vs) (hargs:first++vs++cap=args)
  (hc:∀ w V,St x.M x.w0 x.H0 [V] (A++B) w→mM Hs V→Calls P f args.toArray w (fI x.M x.w0 x.H0 V B Φ))
  (h:∀ e K A' a w,Φ e K A'→St x.M x.w0 x.H0 (K::Hs) (A'++B) w→bQ x.D x.k a L→Bhd P r ops n p rest dst e a w):OG P r ops n p x Hs σ L (⟨dst,.call ⟨.value y,xs.toArray,ats⟩,ty,pos,af,none⟩::rest):=fun a w hS hA=>by
 subst hargs;subst hfv;have hS1:St x.M x.w0 x.H0 Hs (A++B) w:=hS.permO (by rw [hσ]);obtain ⟨V,hV⟩:∃ V,V=iA x.w0 x.H0 (A++B) w:=⟨_,rfl⟩;have hle:∀ (i:Nat) (K:Hp),Hs[i]?=some K→K.le V:=fun i K hi=>by rw [hV];exact hS1.at i hi
 have key:∀ e w',fI x.M x.w0 x.H0 V B Φ e w'→Bhd P r ops n p rest dst e a w':=by
  rintro e w' ⟨K,A',hS',hΦ⟩;refine h e K A' a w' hΦ ⟨hS'.h0,hS'.ext,fun H hH=>?_,hS'.own,hS'.apart⟩ hA;rcases List.mem_cons.1 hH with rfl|hH
  ·exact hS'.le _ List.mem_cons_self
  obtain ⟨i,hi⟩:=List.getElem?_of_mem hH;exact (hle i H hi).trans (hS'.le _ (List.mem_cons_of_mem _ List.mem_cons_self))
 refine iM rfl (fun _ h=>by cases h) (gJ hA hf hxs hcall) (by simpa using hc w V (hS1.mk1 hV) hle) ?_ ?_ ?_
 ·exact fun v w' h=>key _ w' h
 ·exact fun ch w' h=>key _ w' h
 exact fun w' h=>(key _ w' h).elim
theorem St.below {M:Prop} {w0 w:World} {H0 V:Hp} {Hs:List Hp} {σ:aM} (hS:St M w0 H0 [V] σ w) (hV:mM Hs V):St M w0 H0 (V::Hs) σ w:=⟨hS.h0,hS.ext,fun H hH=>(by
 rcases List.mem_cons.1 hH with rfl|h
 ·exact hS.le _ List.mem_cons_self
 obtain ⟨i,hi⟩:=List.getElem?_of_mem h
 exact (hV i H hi).trans (hS.le _ List.mem_cons_self)),hS.own,hS.apart⟩
end
end Pk
namespace Pk
theorem mM.sel {Hs Hs':List Hp} {V:Hp} (h:mM Hs V) (is:List Nat) (hi:qG Hs is=Hs'):mM Hs' V:=fun i K hK=>by
 subst hi;obtain ⟨j,hj⟩:=List.getElem?_of_mem (lQ (List.mem_of_getElem? hK));exact h j K hj
end Pk
namespace Pk
open Go Go.Proofs
def sD:Option Nat→Value
 | none=>.nilFunc
 | some k=>.func (.func k) #[] #[]
theorem QS (q:Option Nat):(sD q).oneCell'=true:=by cases q <;> rfl
theorem qQ (k:Nat):sD (some k)=.func (.func k) [].toArray [].toArray:=rfl
section
variable {κ α:Type}
def tZ (R:Hp→List Value→α→Prop) (K:Hp):List (κ×Value)→List (κ×α)→Prop
 | [],[]=>True
 | (k,v)::hs,(k',x)::m=>k=k'∧(∃ cs,v=.agg cs.toArray∧R K cs x)∧tZ R K hs m
 | _,_=>False
variable {R:Hp→List Value→α→Prop} {K K':Hp} {hs:List (κ×Value)} {m:List (κ×α)}
theorem tZ.mono (hR:gB R):∀ {hs:List (κ×Value)} {m:List (κ×α)},tZ R K hs m→K.le K'→tZ R K' hs m
 | [],[],_,_=>trivial
 | (_,_)::_,(_,_)::_,⟨h1,⟨cs,h2,h3⟩,h4⟩,hk=>⟨h1,⟨cs,h2,hR _ _ _ _ hk h3⟩,h4.mono hR hk⟩
 | [],_::_,h,_=>h.elim
 | _::_,[],h,_=>h.elim
theorem tZ.len:∀ {hs:List (κ×Value)} {m:List (κ×α)},tZ R K hs m→hs.length=m.length
 | [],[],_=>rfl
 | (_,_)::_,(_,_)::_,h=>congrArg (· + 1) h.2.2.len
 | [],_::_,h=>h.elim
 | _::_,[],h=>h.elim
variable [DecidableEq κ]
theorem tZ.put {k:κ} {cs:List Value} {x:α} (hx:R K cs x):∀ {hs:List (κ×Value)} {m:List (κ×α)},tZ R K hs m→tZ R K (put hs k (.agg cs.toArray)) (put m k x)
 | [],[],_=>⟨rfl,⟨cs,rfl,hx⟩,trivial⟩
 | (k0,v)::hs,(_,y)::m,⟨h1,h2,h3⟩=>by
  subst h1;unfold Pk.put;by_cases e:k=k0
  ·rw [if_pos e,if_pos e];exact ⟨rfl,⟨cs,rfl,hx⟩,h3⟩
  rw [if_neg e,if_neg e];exact ⟨rfl,h2,tZ.put hx h3⟩
 | [],_::_,h=>h.elim
 | _::_,[],h=>h.elim
theorem tZ.get {k:κ} {zc:List Value} {z:α} (hz:R K zc z):∀ {hs:List (κ×Value)} {m:List (κ×α)},tZ R K hs m→∃ cs,(eN hs k).getD (.agg zc.toArray)=.agg cs.toArray∧R K cs ((eN m k).getD z)
 | [],[],_=>⟨zc,rfl,hz⟩
 | (k0,v)::hs,(_,y)::m,⟨h1,⟨cs,h2,h2'⟩,h3⟩=>by
  subst h1;subst h2;unfold eN;by_cases e:k=k0
  ·rw [if_pos e,if_pos e];exact ⟨cs,rfl,h2'⟩
  rw [if_neg e,if_neg e];exact tZ.get hz h3
 | [],_::_,h=>h.elim
 | _::_,[],h=>h.elim
end
def DP {κ α:Type} (ke:κ→Value) (R:Hp→List Value→α→Prop) (K:Hp) (v:Value) (m:List (κ×α)):Prop:=∃ hs,Mp ke (fun v:Value=>v) K v hs∧tZ R K hs m
section
variable {κ α:Type} {ke:κ→Value} {R:Hp→List Value→α→Prop} {K K':Hp} {v:Value} {m:List (κ×α)}
theorem DP.mono (hR:gB R) (h:DP ke R K v m) (hk:K.le K'):DP ke R K' v m:=let ⟨hs,h1,h2⟩:=h;⟨hs,h1.mono hk,h2.mono hR hk⟩
theorem DP.isMap (h:DP ke R K v m):∃ b,v=.map b:=let ⟨_,h1,_⟩:=h;h1.isMap
end
section
variable {P:Program} {r:Option Nat} {n:aV} {p:List PanicEntry→aV} {ops:Array Oper} {rest:List Oper} {d:Nat} {ty:TypeId} {pos:String} {af:Array Edge} {x:Fr} {Hs:List Hp} {σ:aM} {L:cB} {N:aV}
theorem lnM {κ α:Type} {ke:κ→Value} {enc:α→Value} {m:List (κ×α)} {y:Operand} {t kt et:TypeId} {v:Value} (hu:P.underlying t=some (.map kt et)) (hd:Nat.blt d x.k=true) (hy:ev L y=some v) (hm:Ms x Hs σ ke enc v m) {l:Nat} (hl:m.length=l) (h:OG P r ops n p x Hs σ ((d,.int .i64 (l:Int))::L) rest):OG P r ops n p x Hs σ L (⟨some d,.call ⟨.builtin .len,#[y],#[t]⟩,ty,pos,af,none⟩::rest):=fun c w hS hA=>by
 subst hl;refine cQ rfl (fun _ h=>by cases h) (w':=w) (v:=.int .i64 m.length) ?_ (h _ w hS (hA.put hd _));rcases hm w hS with ⟨b,rfl,hb⟩|⟨rfl,rfl⟩
 ·have hobj:(getObj b).run P w=.ok (.map (gC ke enc m 0).toArray m.length) w:=MapKept.run_getObj_map hb;simp [execOp,resolve,invoke,builtin,Builtin.len_,hA.eval hy,run_underlying hu,hobj,jT,goInt]
 simp [execOp,resolve,invoke,builtin,Builtin.len_,hA.eval hy,run_underlying hu,goInt]
end
section
variable {α:Type}
def kB:List gD→List (List α)→List Value
 | a::hs,l::m=>.slice a.1 l.length a.2::kB hs m
 | _,_=>[]
theorem QT (x:Int):IntKind.u8.wrap x=x%256:=by
 simp only [IntKind.wrap,IntKind.bits,IntKind.signed,Bool.false_and];simp
theorem qR:∀ (hs:List gD) (m:List (List α)),(kB hs m).all (·.oneCell')=true
 | [],_=>rfl
 | _::_,[]=>rfl
 | _::hs,_::m=>by simp only [kB,List.all_cons,qR hs m];rfl
theorem rI {a b:List Value} {f:Value→Bool} (h:a.all f=true) (h2:b.all f=true):(gE a b).all f=true:=by rw [gE,List.all_append,h,h2];rfl
theorem gX {a b:List Value} {m n k:Nat} (h:a.length=m) (h2:b.length=n) (hk:m+n=k):(gE a b).length=k:=by rw [gE,List.length_append,h,h2,hk]
theorem zG:∀ {hs:List gD} {m:List (List α)},hs.length=m.length→(kB hs m).length=m.length
 | [],[],_=>rfl
 | _::hs,_::m,h=>congrArg (· + 1) (zG (by simpa using h))
 | [],_::_,h=>by simp at h
 | _::_,[],h=>by simp at h
theorem zH:∀ {hs:List gD} {m:List (List α)} {i:Nat} {a:gD} {l:List α},hs[i]?=some a→m[i]?=some l→(kB hs m)[i]?=some (.slice a.1 l.length a.2)
 | [],_,_,_,_,h,_=>by simp at h
 | _::_,[],_,_,_,_,h=>by simp at h
 | b::hs,y::m,0,a,l,h1,h2=>by simp at h1 h2;subst h1;subst h2;rfl
 | b::hs,y::m,i+1,a,l,h1,h2=>by simp only [kB,List.getElem?_cons_succ];exact zH (by simpa using h1) (by simpa using h2)
theorem zI:∀ {hs:List gD} {m:List (List α)} (i:Nat) (a:gD) (l:List α),hs.length=m.length→(kB hs m).set i (.slice a.1 l.length a.2)=kB (hs.set i a) (m.set i l)
 | [],[],_,_,_,_=>rfl
 | _::hs,_::m,0,_,_,_=>rfl
 | _::hs,_::m,i+1,a,l,h=>by simp only [kB,List.set_cons_succ,zI i a l (show hs.length=m.length by simpa using h)]
 | [],_::_,_,_,_,h=>by simp at h
 | _::_,[],_,_,_,h=>by simp at h
structure kX (R:Hp→List Value→α→Prop) (size n:Nat) (K:Hp) (hs:List gD) (m:List (List α)):Prop where
 lh:hs.length=n
 lm:m.length=n
 get:∀ (i:Nat) (a:gD) (l:List α),hs[i]?=some a→m[i]?=some l→Sl R size K a.1 a.2 l
variable {R:Hp→List Value→α→Prop} {size n:Nat} {K K':Hp} {hs:List gD} {m:List (List α)}
theorem kX.mono (hR:gB R) (h:kX R size n K hs m) (hk:K.le K'):kX R size n K' hs m:=⟨h.lh,h.lm,fun i a l h1 h2=>(h.get i a l h1 h2).mono hR hk⟩
theorem zJ {β:Type} {n i:Nat} {x y:β} (h:(List.replicate n x)[i]?=some y):y=x:=by
 rw [List.getElem?_replicate] at h
 split at h
 ·exact (Option.some.inj h).symm
 cases h
theorem kX.zero (R:Hp→List Value→α→Prop) (size n:Nat) (K:Hp):kX R size n K (List.replicate n ((none,0):gD)) (List.replicate n ([]:List α)):=⟨List.length_replicate,List.length_replicate,fun i a l h1 h2=>by
 obtain rfl:=zJ h1;obtain rfl:=zJ h2
 exact Sl.nil _ _ _ _ _ (by decide)⟩
theorem kX.at (h:kX R size n K hs m) {j:Nat} (hj:j<n):∃ ad cap l,m[j]?=some l∧(kB hs m)[j]?=some (.slice ad l.length cap)∧Sl R size K ad cap l:=by
 have hh:j<hs.length:=by rw [h.lh];exact hj
 have hm:j<m.length:=by rw [h.lm];exact hj
 have h1:hs[j]?=some hs[j]:=List.getElem?_eq_getElem hh;have h2:m[j]?=some m[j]:=List.getElem?_eq_getElem hm;exact ⟨_,_,_,h2,zH h1 h2,h.get _ _ _ h1 h2⟩
theorem kX.set (h:kX R size n K hs m) (j:Nat) {ad:Option Addr} {cap:Nat} {l:List α} (hl:Sl R size K ad cap l):kX R size n K (hs.set j (ad,cap)) (m.set j l):=⟨by rw [List.length_set,h.lh],by rw [List.length_set,h.lm],fun i a y h1 h2=>by
 rw [List.getElem?_set] at h1 h2;by_cases e:j=i
 ·subst e;rw [if_pos rfl] at h1 h2
  split at h1
  ·split at h2
   ·cases h1;cases h2;exact hl
   cases h2
  cases h1
 rw [if_neg e] at h1 h2;exact h.get i a y h1 h2⟩
theorem kX.len (h:kX R size n K hs m):(kB hs m).length=n:=by rw [zG (by rw [h.lh,h.lm]),h.lm]
theorem kX.cset (h:kX R size n K hs m) (j:Nat) (ad:Option Addr) (cap:Nat) (l:List α):(kB hs m).set j (.slice ad l.length cap)=kB (hs.set j (ad,cap)) (m.set j l):=zI j (ad,cap) l (by rw [h.lh,h.lm])
theorem OM {xs ys suf:List Value} {j:Nat} {v:Value} (hj:j<xs.length) (h:xs.set j v=ys):(xs++suf).set j v=ys++suf:=by rw [List.set_append_left _ _ hj,h]
theorem DQ {xs suf:List Value} {j:Nat} {v:Value} (h:xs[j]?=some v):(xs++suf)[j]?=some v:=by rw [List.getElem?_append_left (List.getElem?_eq_some_iff.1 h).1];exact h
theorem WS {xs suf:List Value} {j:Nat} (h:j<xs.length):j<(xs++suf).length:=by rw [List.length_append];omega
end
theorem kX.at2 {α:Type} {R:Hp→List Value→α→Prop} {size n:Nat} {K:Hp} {hs:List gD} {m:List (List α)} (h:kX R size n K hs m) {j:Nat} {l:List α} (hl:m[j]?=some l):∃ ad cap,j<n∧(kB hs m)[j]?=some (.slice ad l.length cap)∧Sl R size K ad cap l:=by
 have hj:j<n:=by rw [← h.lm];exact (List.getElem?_eq_some_iff.1 hl).1
 obtain ⟨ad,cap,l',h1,h2,h3⟩:=h.at hj;obtain rfl:=Option.some.inj (hl.symm.trans h1);exact ⟨ad,cap,hj,h2,h3⟩
section
variable {P:Program} {r:Option Nat} {n:aV} {p:List PanicEntry→aV} {ops:Array Oper} {rest:List Oper} {d:Nat} {ty:TypeId} {pos:String} {af:Array Edge} {x:Fr} {Hs:List Hp} {σ:aM} {L:cB}
theorem WT (q:Addr):q.add 0=q:=rfl
theorem ON {q:Addr} {size ln:Nat} {y:Operand} {t el:TypeId} (hu:P.underlying t=some (.array ln el)) (hz:∀ w,(Go.sizeOf el).run P w=.ok size w) (hd:Nat.blt d x.k=true) (hy:ev L y=some (.pointer (some q))) (h:OG P r ops n p x Hs σ ((d,.slice (some q) ln ln)::L) rest):OG P r ops n p x Hs σ L (⟨some d,.slice t y none none none,ty,pos,af,none⟩::rest):=fun a w hS hA =>
 cQ rfl (fun _ h=>by cases h) (w':=w) (v:=.slice (some q) ln ln) (by
  simp [execOp,Instr.sliceAt,Instr.sureAddr,Instr.sliceBounds,hA.eval hy,run_underlying hu,hz,WT]) (h _ w hS (hA.put hd _))
theorem WU {q:Addr} {size ln:Nat} {y hi:Operand} {t el:TypeId} (j:Nat) {kh:IntKind} {mh:Int} (hu:P.underlying t=some (.array ln el)) (hz:∀ w,(Go.sizeOf el).run P w=.ok size w) (hd:Nat.blt d x.k=true) (hy:ev L y=some (.pointer (some q))) (hhi:ev L hi=some (.int kh mh)) (hj1:mh=(j:Int)) (hj:j≤ln) (h:OG P r ops n p x Hs σ ((d,.slice (some q) j ln)::L) rest):OG P r ops n p x Hs σ L (⟨some d,.slice t y none (some hi) none,ty,pos,af,none⟩::rest):=fun a w hS hA=>by
 subst hj1
 exact cQ rfl (fun _ h=>by cases h) (w':=w) (v:=.slice (some q) j ln) (by
  simp [execOp,Instr.sliceAt,Instr.sureAddr,Instr.sliceBounds,Instr.sliceBound,asIntOf,hA.eval hy,hA.eval hhi,run_underlying hu,hz,hj,WT]) (h _ w hS (hA.put hd _))
theorem ixA {cs:List Value} {size ln:Nat} {y i:Operand} {t el:TypeId} {k:IntKind} {m:Int} (j:Nat) {v:Value} (hu:P.underlying t=some (.array ln el)) (hz:∀ w,(Go.sizeOf el).run P w=.ok size w) (hag:∀ w,(isAgg el).run P w=.ok false w) (hd:Nat.blt d x.k=true) (hy:ev L y=some (.agg cs.toArray)) (hi:ev L i=some (.int k m)) (hm:m=(j:Int)) (hj:j<ln) (hv:cs[j*size]?=some v) (h:OG P r ops n p x Hs σ ((d,v)::L) rest):OG P r ops n p x Hs σ L (⟨some d,.index t y i,ty,pos,af,none⟩::rest):=fun a w hS hA=>by
 subst hm;exact cQ rfl (fun _ h=>by cases h) (w':=w) (v:=v) (by simp [execOp,Instr.index,part,hA.eval hy,hA.eval hi,asIntOf,run_underlying hu,hz,hag,hj,hv]) (h _ w hS (hA.put hd _))
theorem shR {y z:Operand} {t u:TypeId} {k k2:IntKind} {a b c:Int} (hd:Nat.blt d x.k=true) (hy:ev L y=some (.int k a)) (hz:ev L z=some (.int k2 b)) (hb:(if b<0 then none else some (a.fdiv (2 ^ (min b.toNat k.bits))))=some c) (h:OG P r ops n p x Hs σ ((d,.int k c)::L) rest):OG P r ops n p x Hs σ L (⟨some d,.binOp .shr t y z u,ty,pos,af,none⟩::rest):=fun s w hS hA=>by
 have hb0:¬b<0:=fun h=>by rw [if_pos h] at hb;cases hb
 rw [if_neg hb0] at hb;have hc:=Option.some.inj hb;refine cQ rfl (fun _ h=>by cases h) (w':=w) (v:=.int k c) ?_ (h _ w hS (hA.put hd _));simp [execOp,hA.eval hy,hA.eval hz,eqGuard,binOp,Op.shift,hb0,hc]
theorem KC {a:Int} (k m:Nat) (h:0≤a) (hk:Nat.blt k 64=true:=by rfl) (hm:2 ^ k=m:=by rfl):(if (k:Int)<0 then none else some (a.fdiv (2 ^ (min (k:Int).toNat IntKind.u64.bits))))=some (a/(m:Int)):=by
 have hk':k<64:=by simpa using hk
 have:min (k:Int).toNat IntKind.u64.bits=k:=by
  have:IntKind.u64.bits=64:=rfl;omega
 rw [if_neg (by omega),this,← hm,Int.fdiv_eq_ediv_of_nonneg a (by exact Int.le_of_lt (Int.pow_pos (by decide)))]
 push_cast;rfl
end
def IK (v:Int):UInt8:=UInt8.ofNat v.toNat
theorem KD {v:Int} (h:0≤v∧v≤255):(Value.int .u8 v)=.int .u8 ((IK v).toNat:Int):=by
 unfold IK;rw [UInt8.toNat_ofNat',Nat.mod_eq_of_lt (by omega)];congr 1;omega
theorem Sl.bytes {K:Hp} {q:Addr} {cs:List Value} {l:List Int} (hq:q.spot=none) (hK:aN K q cs) (hc:cs=l.map fun v=>Value.int .u8 v) (hl:∀ v∈l,0≤v∧v≤255) (hm:l.length≤1073741824) {j:Nat} (hj:j≤l.length):Sl (aD cH) 1 K (some q) l.length ((l.map IK).take j):=by
 have h1:cs=(l.map IK).flatMap cH:=by
  subst hc;clear hK hm hj
  induction l with
  | nil=>rfl
  | cons v l ih=>rw [List.map_cons,List.map_cons,List.flatMap_cons,← ih (fun v hv=>hl v (List.mem_cons_of_mem _ hv)),KD (hl v List.mem_cons_self)];rfl
 have h2:Sl (aD cH) 1 K (some q) (l.map IK).length (l.map IK):=by
  refine Sl.litR (css:=(l.map IK).map cH) ?_ hq (by rw [← List.flatMap_def,← h1];exact hK) (Nat.ble_eq_true_of_le (by simpa using hm));generalize l.map IK=m
  induction m with
  | nil=>trivial
  | cons c m ih=>exact ⟨⟨rfl,rfl,rfl⟩,ih⟩
 rw [List.length_map] at h2;refine ⟨⟨by rw [List.length_take,List.length_map];omega,h2.1.2⟩,fun i y hy=>h2.2 i y ?_⟩;rw [List.getElem?_take] at hy
 split at hy
 ·exact hy
 cases hy
section
variable {P:Program} {r:Option Nat} {n:aV} {p:List PanicEntry→aV} {ops:Array Oper} {rest:List Oper} {d:Nat} {ty:TypeId} {pos:String} {af:Array Edge} {x:Fr} {Hs:List Hp} {σ:aM} {L:cB}
theorem wY (tg:Nat) {α:Type} {enc:α→List Value} {el size:Nat} {l:List α} {y:Operand} {xs:List Operand} {ats:Array TypeId} {f:FuncId} {first cap:List Value} {vs args:List Value} (hcall:∀ args w,(callFunc f args).run P w=.ok (.enter f args) w) (hf:ev L y=some (.func (.func f) first.toArray cap.toArray)) (hxs:mD L xs=some vs) (hargs:first++vs++cap=args) (hd:Nat.blt d x.k=true)
  (hc:∀ w V σr,St x.M x.w0 x.H0 [V] σr w→mM Hs V→Calls P f args.toArray w (fI x.M x.w0 x.H0 V σr (fun e _ A'=>∃ (ad:Option Addr) (cap:Nat),e=.returned (.slice ad l.length cap)∧A'=[(1,aP.list ad cap el size enc l)])))
  (h:∀ ad cap,OG P r ops n p x Hs ((tg,aP.list ad cap el size enc l)::σ) ((d,.slice ad l.length cap)::L) rest):OG P r ops n p x Hs σ L (⟨some d,.call ⟨.value y,xs.toArray,ats⟩,ty,pos,af,none⟩::rest):=by
 refine qP [] (B:=σ) rfl hcall hf rfl hxs hargs (fun w V hS le=>hc w V σ hS le) ?_;rintro e K A' a w ⟨ad,cap,rfl,rfl⟩ hS hA;refine wD (fB hd hA hS ?_);exact fun a w hS hA=>h ad cap a w (St.permO (σ':=(tg,aP.list ad cap el size enc l)::σ) (σ:=[(1,aP.list ad cap el size enc l)]++σ) (List.Perm.refl _) hS |> fun hS=>⟨hS.h0,hS.ext,fun H hH=>hS.le H (List.mem_cons_of_mem _ hH),hS.own,hS.apart⟩) hA
theorem OO (tg:Nat) {α:Type} {R:Hp→List Value→α→Prop} {el size:Nat} {l:List α} {y:Operand} {xs:List Operand} {ats:Array TypeId} {f:FuncId} {first cap:List Value} {vs args:List Value} (hcall:∀ args w,(callFunc f args).run P w=.ok (.enter f args) w) (hf:ev L y=some (.func (.func f) first.toArray cap.toArray)) (hxs:mD L xs=some vs) (hargs:first++vs++cap=args) (hd:Nat.blt d x.k=true)
  (hc:∀ w V σr,St x.M x.w0 x.H0 [V] σr w→mM Hs V→Calls P f args.toArray w (fI x.M x.w0 x.H0 V σr (fun e K A'=>∃ (ad:Option Addr) (cap:Nat) (css:List (List Value)),e=.returned (.slice ad l.length cap)∧A'=[(1,aP.rows ad cap el size css l)]∧Rows R size K css l)))
  (h:∀ ad cap css K,Rows R size K css l→OG P r ops n p x (K::Hs) ((tg,aP.rows ad cap el size css l)::σ) ((d,.slice ad l.length cap)::L) rest):OG P r ops n p x Hs σ L (⟨some d,.call ⟨.value y,xs.toArray,ats⟩,ty,pos,af,none⟩::rest):=by
 refine qP [] (B:=σ) rfl hcall hf rfl hxs hargs (fun w V hS le=>hc w V σ hS le) ?_;rintro e K A' a w ⟨ad,cap,css,rfl,rfl,hR⟩ hS hA;refine wD (fB hd hA hS ?_);exact fun a w hS hA=>h ad cap css K hR a w (St.permO (σ':=(tg,aP.rows ad cap el size css l)::σ) (σ:=[(1,aP.rows ad cap el size css l)]++σ) (List.Perm.refl _) hS) hA
theorem WV:∀ (l cs:List Value),l.length=cs.length→lF l 0 cs=cs
 | [],[],_=>rfl
 | _::l,c::cs,h=>by simp only [lF,WV l cs (by simpa using h)]
theorem wZ (tg:Nat) {t t0:TypeId} {y z:Operand} {v:Value} {cs l:List Value} {b s:Nat} (hs:∀ w,(Go.sizeOf t).run P w=.ok s w) (hy:ev L y=some (.pointer (some ⟨b,0,none⟩))) (hz:ev L z=some v) (hσ:cJ σ tg=some (bE b t0 l)) (hv:bX v=cs) (hcl:cs.length=s) (h1:cs.all (·.oneCell')=true) (hl:l.length=s) (h:OG P r ops n p x Hs (dP σ tg (bE b t0 cs)) L rest):OG P r ops n p x Hs σ L (⟨none,.store t y z,ty,pos,af,none⟩::rest) :=
 eQ tg hs hy hz hσ hv hcl h1 (by simp [hl]) (by rw [WV l cs (hl.trans hcl.symm)];exact h)
theorem aCq {s:aE} {K:Hp} {ad:Option Addr} {cap ln:Nat} {src dst el:TypeId} {y:Operand} (hln:ln=s.length) (hl:Sl (aD cH) 1 K ad cap s) (i:Nat) (hi:Hs[i]?=some K) (hs:P.underlying src=some (.slice el)) (he:P.underlying el=some (.int .u8)) (hdst:P.underlying dst=some .string) (hd:Nat.blt d x.k=true) (hy:ev L y=some (.slice ad ln cap)) (h:OG P r ops n p x Hs σ ((d,.string (bs s))::L) rest):OG P r ops n p x Hs σ L (⟨some d,.convert src dst y,ty,pos,af,none⟩::rest):=by
 subst hln;exact cvT hl i hi hs he hdst hd hy h
end
section
variable {P:Program} {r:Option Nat} {n:aV} {p:List PanicEntry→aV} {ops:Array Oper} {rest:List Oper} {d:Nat} {ty:TypeId} {pos:String} {af:Array Edge} {x:Fr} {Hs:List Hp} {σ:aM} {L:cB}
theorem aCr {κ α:Type} {ke:κ→Value} {R:Hp→List Value→α→Prop} {m:List (κ×α)} {y:Operand} {t kt et:TypeId} {v:Value} {K:Hp} (hu:P.underlying t=some (.map kt et)) (hd:Nat.blt d x.k=true) (hy:ev L y=some v) (i:Nat) (hi:Hs[i]?=some K) (hm:DP ke R K v m) (h:OG P r ops n p x Hs σ ((d,.int .i64 (m.length:Int))::L) rest):OG P r ops n p x Hs σ L (⟨some d,.call ⟨.builtin .len,#[y],#[t]⟩,ty,pos,af,none⟩::rest) :=
 let ⟨_,h1,h2⟩:=hm
 lnM hu hd hy (mS i hi h1) h2.len h
theorem DR {M:Prop} {f:FuncId} {fn:Func} {c:Code} {nt:Nat} {w w0:World} {H0:Hp} {R:Ending→World→Prop} {l:List Value} (hf:P.funcs[f]?=some fn) (hb:fn.body=some c) (hn:fn.ntmps=nt) (hl:Nat.ble l.length nt=true) (hS:St M w0 H0 Hs σ w)
  (h:TG ⟨[],nt,M,w0,H0⟩ Hs σ (jB 0 l) (W P none c (OD P fn R) (OD P fn R) [] (fun _ _ _=>False))):Calls P f l.toArray w R :=
 DB hf hb hn hl fun a hA=>h a w hS hA
theorem DS {M:Prop} {f:FuncId} {fn:Func} {c:Code} {nt:Nat} {w w0:World} {H0:Hp} {R:Ending→World→Prop} {l:List Value} (hf:P.funcs[f]?=some fn) (hb:fn.body=some c) (hn:fn.ntmps=nt) (hl:Nat.ble l.length nt=true) (hS:St M w0 H0 Hs σ w)
  (h:TG ⟨[],nt,M,w0,H0⟩ Hs σ (jB 0 l) (W P none c (fun _ _=>False) (WO P fn R) [] (WP P fn R))):Calls P f l.toArray w R :=
 QO hf hb hn hl fun a hA=>h a w hS hA
end
end Pk
namespace Pk
open Go
theorem Sl.o {α:Type} {R:Hp→List Value→α→Prop} {size:Nat} {H:Hp} {ad:Option Addr}:Sl R size H ad 0 []:=Sl.nil _ _ _ _ _ (Nat.zero_le _)
theorem Sl.atF {α:Type} {enc:α→List Value} {size:Nat} {H:Hp} {p:Addr} {cap:Nat} {l:List α} (h:Sl (aD enc) size H (some p) cap l) {j:Nat} {x:α} (hx:l[j]?=some x):aN H (p.add (j*size)) (enc x):=by
 obtain ⟨cs,_,h1,rfl⟩:=h.at hx;exact h1
theorem Rows.ofF {α:Type} {enc:α→List Value} {size:Nat} {K:Hp} (he:∀ x,(enc x).length=size) (ho:∀ x,(enc x).all (·.oneCell')=true):∀ l:List α,Rows (aD enc) size K (l.map enc) l
 | []=>trivial
 | x::l=>⟨⟨he x,ho x,rfl⟩,Rows.ofF he ho l⟩
theorem Sl.litF {α:Type} {enc:α→List Value} {size:Nat} {K:Hp} {q:Addr} {cs:List Value} {l:List α} {n:Nat} (he:∀ x,(enc x).length=size) (ho:∀ x,(enc x).all (·.oneCell')=true) (hq:q.spot=none) (hK:aN K q cs) (hc:cs=l.flatMap enc) (hn:n=l.length) (hm:Nat.ble l.length 1073741824=true):Sl (aD enc) size K (some q) n l:=by
 subst hn;exact Sl.litR (css:=l.map enc) (Rows.ofF he ho l) hq (by rw [← List.flatMap_def,← hc];exact hK) hm
abbrev fS (n:Nat):Option Addr×Nat→Value:=fun q=>.slice q.1 n q.2
abbrev gS {α:Type} (R:Hp→List Value→α→Prop) (size:Nat) (l:List α):Option Addr×Nat→Hp→Prop:=fun q K=>Sl R size K q.1 q.2 l
theorem gm {α:Type} {R:Hp→List Value→α→Prop} {size:Nat} {l:List α} (h:gB R):kV (gS R size l):=fun _ _ _ hk x=>Sl.mono h x hk
def IL (j:Nat) (wt:Bool) (dj k:Nat):Nat→List Oper→Option (List Nat×List Oper)
 | 0,l=>some ([],l)
 | _+1,[]=>none
 | m+1,o::l=>match o.dst,o.guard with
  | some d,some (j',w')=>bif Nat.beq j' j&&(bif w' then wt else !wt)&&Nat.blt d k&&!Nat.beq d dj then (IL j wt dj k m l).map (fun q=>(d::q.1,q.2)) else none
  | _,_=>none
def ud:List Nat→cB→cB
 | [],L=>L
 | d::ds,L=>ud ds ((d,undef)::L)
theorem vD {j:Nat} {wt:Bool} {dj k m:Nat} {l:List Oper} {q:List Nat×List Oper} (h:IL j wt dj k (m+1) l=some q) :
  ∃ d op ty pos af l' q',l=⟨some d,op,ty,pos,af,some (j,wt)⟩::l'∧IL j wt dj k m l'=some q'∧q=(d::q'.1,q'.2)∧Nat.blt d k=true∧d≠dj:=by
 cases l with
 | nil=>simp [IL] at h
 | cons o l =>
  obtain ⟨dst,op,ty,pos,af,g⟩:=o
  cases dst with
  | none=>simp [IL] at h
  | some d =>
   cases g with
   | none=>simp [IL] at h
   | some g =>
    obtain ⟨j',w'⟩:=g;simp only [IL] at h
    cases hc:(Nat.beq j' j&&(bif w' then wt else !wt)&&Nat.blt d k&&!Nat.beq d dj) with
    | false=>rw [hc] at h;cases h
    | true =>
     rw [hc] at h;simp only [Bool.and_eq_true,Bool.not_eq_true'] at hc;obtain ⟨⟨⟨h1,h2⟩,h3⟩,h4⟩:=hc;obtain rfl:=Nat.eq_of_beq_eq_true h1;have hw:w'=wt:=by cases w' <;> cases wt <;> simp_all
     subst hw
     cases hs:IL j' w' dj k m l with
     | none=>rw [hs] at h;cases h
     | some q' =>
      rw [hs] at h;cases h;exact ⟨d,op,ty,pos,af,l,q',rfl,hs,rfl,h3,fun e=>by subst e;rw [Nat.beq_refl] at h4;cases h4⟩
section
variable {P:Program} {r:Option Nat} {ops:Array Oper} {ms:List Nat} {D:List Deferred} {k:Nat} {M:Prop} {w0:World} {H0:Hp} {Hs:List Hp} {σ:aM} {L0:cB} {pp:List PanicEntry→aV} {i:Nat} {o:Oper} {rest:List Oper} {E:cB} {F:cL} {d:Nat} {v:Value}
abbrev Cn (D:List Deferred) (M:Prop) (w0:World) (H0:Hp) (Hs:List Hp) (d:Nat) (K:Hp) {α:Type} (σ1:α→aM) (f:α→Value) (G:α→Hp→Prop):aV:=fun a' w'=>∃ (x:α) (K':Hp),K.le K'∧St M w0 H0 (K'::Hs) (σ1 x) w'∧a'.tmps[d]?=some (f x)∧a'.defers=D∧G x K'
section
variable {us:List Nat} {T:List (Nat×Nat×Value)} {Sg:Option (Nat→Act→aM)} {prev:List (Nat×aM)}
theorem dA {fin:aM→cB→cL→Prop} (hd:o.dst=some d)
  (hX:∀ {K:Hp} {τ:aM},TG ⟨D,k,M,w0,H0⟩ (K::Hs) τ (wJ (o.looksAt ops) E++L0) (O P r ops (Cn D M w0 H0 Hs d K (fun _:Unit=>τ) (fun _=>v) (fun _ _=>True)) pp [o]))
  (h:DC P r ops ms D k M w0 H0 Hs L0 pp us T Sg fin prev σ (i+1) rest ((d,v)::E) F) (hne:us.contains i=false:=by rfl) (hn:eM T i=true:=by rfl):DC P r ops ms D k M w0 H0 Hs L0 pp us T Sg fin prev σ i (o::rest) E F :=
 .detA hne hn hd (fun _ a w _ hS hA _=>hX a w hS hA) h
theorem uTf {fin:aM→cB→cL→Prop} {α:Type} (n:Nat) (R:Hp→List Value→α→Prop) (size:Nat) (l:List α) (hm:gB R) (hd:o.dst=some d)
  (hk:∀ τ,pM P r ops D k M w0 H0 Hs τ L0 pp o d E F (fS n) (gS R size l))
  (h:∀ ad cap,DC P r ops ms D k M w0 H0 Hs L0 pp us T Sg fin prev σ (i+1) rest ((d,.slice ad n cap)::E) ((d,fun K=>Sl R size K ad cap l)::F)) (hne:us.contains i=false:=by rfl) (hb:CZ us ms i=true:=by kernel_rfl) (hu:jH ops ms i=true:=by kernel_rfl) (hn:eM T i=true:=by rfl):DC P r ops ms D k M w0 H0 Hs L0 pp us T Sg fin prev σ i (o::rest) E F :=
 .und (none,0) (fS n) (gS R size l) (fun _=>True) hne trivial hb (HP.all fun _=>trivial) (gm hm) hu hn hd (fun τ _=>hk τ) (fun q=>h q.1 q.2)
theorem uT {fin:aM→cB→cL→Prop} {α:Type} (n:Nat) (R:Hp→List Value→α→Prop) (size:Nat) (l:List α) (hm:gB R) (hd:o.dst=some d)
  (hX:∀ {K:Hp} {τ:aM},TG ⟨D,k,M,w0,H0⟩ (K::Hs) τ (wJ (o.looksAt ops) E++L0) (O P r ops (Cn D M w0 H0 Hs d K (fun _=>τ) (fS n) (gS R size l)) pp [o]))
  (h:∀ ad cap,DC P r ops ms D k M w0 H0 Hs L0 pp us T Sg fin prev σ (i+1) rest ((d,.slice ad n cap)::E) ((d,fun K=>Sl R size K ad cap l)::F)) (hne:us.contains i=false:=by rfl) (hb:CZ us ms i=true:=by kernel_rfl) (hu:jH ops ms i=true:=by kernel_rfl) (hn:eM T i=true:=by rfl):DC P r ops ms D k M w0 H0 Hs L0 pp us T Sg fin prev σ i (o::rest) E F :=
 uTf n R size l hm hd (fun _ a w _ hS hA _=>hX a w hS hA) h hne hb hu hn
theorem tS {fin:aM→cB→cL→Prop} (n:Nat) (σ1:Option Addr→Nat→aM) (hd:o.dst=some d)
  (hX:∀ a w K,St M w0 H0 (K::Hs) σ w→bQ D k a (wJ (o.looksAt ops) E++L0)→OA (o.looksAt ops) F K →
   (∀ {L':cB} (ad:Option Addr) (cap:Nat),TG ⟨D,k,M,w0,H0⟩ (K::Hs) (σ1 ad cap) ((d,.slice ad n cap)::L') (O P r ops (Cn D M w0 H0 Hs d K (fun q:Option Addr×Nat=>σ1 q.1 q.2) (fS n) (fun _ _=>True)) pp []))→O P r ops (Cn D M w0 H0 Hs d K (fun q:Option Addr×Nat=>σ1 q.1 q.2) (fS n) (fun _ _=>True)) pp [o] a w)
  (h:∀ ad cap,DC P r ops ms D k M w0 H0 Hs L0 pp us T none fin ((i,σ)::prev) (σ1 ad cap) (i+1) rest ((d,.slice ad n cap)::E) ((d,fun _=>True)::F)) (hi:us.contains i=true:=by rfl) (hu:jH ops ms i=true:=by kernel_rfl) (hn:eM T i=true:=by rfl):DC P r ops ms D k M w0 H0 Hs L0 pp us T none fin prev σ i (o::rest) E F :=
 .turn (none,0) (fS n) (fun _ _=>True) (fun q=>σ1 q.1 q.2) hi (fun _ _ _ _ h=>h) hu hn hd (fun a w K hS hA hF=>hX a w K hS hA hF (fun ad cap=>wS (f:=fS n) (G:=fun _ _=>True) (σ1:=fun q=>σ1 q.1 q.2) (ad,cap) trivial)) (fun q=>h q.1 q.2) (fun S hS=>by cases hS)
end
theorem uF {fin:cB→cL→Prop} {α:Type} (n:Nat) (R:Hp→List Value→α→Prop) (size:Nat) (l:List α) (hm:gB R) (hd:o.dst=some d)
  (hk:pM P r ops D k M w0 H0 Hs σ L0 pp o d E F (fS n) (gS R size l))
  (h:∀ ad cap,DF P r ops ms D k M w0 H0 Hs σ L0 pp fin (i+1) rest ((d,.slice ad n cap)::E) ((d,fun K=>Sl R size K ad cap l)::F)) (hu:jH ops ms i=true:=by kernel_rfl):DF P r ops ms D k M w0 H0 Hs σ L0 pp fin i (o::rest) E F :=
 .und (none,0) (fS n) (gS R size l) (gm hm) hu hd hk (fun q=>h q.1 q.2)
theorem uS {fin:cB→cL→Prop} {α:Type} (n:Nat) (R:Hp→List Value→α→Prop) (size:Nat) (l:List α) (hm:gB R) (hd:o.dst=some d)
  (hX:∀ {K:Hp},TG ⟨D,k,M,w0,H0⟩ (K::Hs) σ (wJ (o.looksAt ops) E++L0) (O P r ops (Cn D M w0 H0 Hs d K (fun _=>σ) (fS n) (gS R size l)) pp [o]))
  (h:∀ ad cap,DF P r ops ms D k M w0 H0 Hs σ L0 pp fin (i+1) rest ((d,.slice ad n cap)::E) ((d,fun K=>Sl R size K ad cap l)::F)) (hu:jH ops ms i=true:=by kernel_rfl):DF P r ops ms D k M w0 H0 Hs σ L0 pp fin i (o::rest) E F :=
 uF n R size l hm hd (fun a w _ hS hA _=>hX a w hS hA) h hu
theorem uC {fin:cB→cL→Prop} (v:Value) (G:Hp→Prop) (hm:∀ H K,Hp.le H K→G H→G K) (hd:o.dst=some d)
  (hk:∀ a w K,St M w0 H0 (K::Hs) σ w→bQ D k a (wJ (o.looksAt ops) E++L0)→OA (o.looksAt ops) F K →
   (∀ {L':cB},G K→TG ⟨D,k,M,w0,H0⟩ (K::Hs) σ ((d,v)::L') (O P r ops (Cn D M w0 H0 Hs d K (fun _:Unit=>σ) (fun _=>v) (fun _=>G)) pp []))→O P r ops (Cn D M w0 H0 Hs d K (fun _:Unit=>σ) (fun _=>v) (fun _=>G)) pp [o] a w)
  (h:DF P r ops ms D k M w0 H0 Hs σ L0 pp fin (i+1) rest ((d,v)::E) ((d,G)::F)) (hu:jH ops ms i=true:=by kernel_rfl):DF P r ops ms D k M w0 H0 Hs σ L0 pp fin i (o::rest) E F :=
 .und () (fun _=>v) (fun _=>G) (fun _=>hm) hu hd (fun a w K hS hA hF=>hk a w K hS hA hF (fun hG=>wR (f:=fun _=>v) (G:=fun _=>G) () hG)) (fun _=>h)
theorem rJ {α:Type} {R:Hp→List Value→α→Prop} {size:Nat} {l:List α} {n:Nat} {ad:Option Addr} {cap:Nat} {K K':Hp} {L:cB} (hm:gB R) (h:Sl R size K' ad cap l):TG ⟨D,k,M,w0,H0⟩ (K'::K::Hs) σ ((d,.slice ad n cap)::L) (O P r ops (Cn D M w0 H0 Hs d K (fun _=>σ) (fS n) (gS R size l)) pp []):=nJ (f:=fS n) (G:=gS R size l) (ad,cap) (gm hm) h
theorem kS {α:Type} {R:Hp→List Value→α→Prop} {size:Nat} {l:List α} {n:Nat} {K:Hp} {L:cB} (hm:gB R):∀ v K',(∃ (ad:Option Addr) (cap:Nat),v=.slice ad n cap∧Sl R size K' ad cap l)→TG ⟨D,k,M,w0,H0⟩ (K'::K::Hs) σ ((d,v)::L) (O P r ops (Cn D M w0 H0 Hs d K (fun _=>σ) (fS n) (gS R size l)) pp []):=by
 rintro v K' ⟨ad,cap,rfl,h⟩;exact rJ hm h
theorem cC {n:aV} {p:List PanicEntry→aV} {x:Fr} {L:cB} (m:Nat) {j dj:Nat} {wt b:Bool} {l rest:List Oper} {ds:List Nat} (hg:(l.head?).bind (·.guard)=some (j,wt)) (hj:(ops[j]?).bind (·.dst)=some dj) (hb:lk L dj=some (.bool b)) (hw:b=!wt)
  (hs:IL j wt dj x.k m l=some (ds,rest)) (h:OG P r ops n p x Hs σ (ud ds L) rest):OG P r ops n p x Hs σ L l:=by
 clear hg
 induction m generalizing l L ds with
 | zero=>cases hs;exact h
 | succ m ih =>
  obtain ⟨d,op,ty,pos,af,l',q',rfl,h1,h2,h3,h4⟩:=vD hs;cases h2;refine gF hj hb hw h3 (ih ?_ h1 h);rw [show lk ((d,undef)::L) dj=lk L dj by simp only [lk];rw [show Nat.beq d dj=false by rw [Bool.eq_false_iff];exact fun c=>h4 (Nat.eq_of_beq_eq_true c)];rfl];exact hb
def WW (ops:Array Oper) (L0:cB) (dj:Nat) (v:Value):Nat→List Oper→cB→Prop
 | 0,_,_=>True
 | _+1,[],_=>True
 | m+1,o::l,E=>lk (wJ (o.looksAt ops) E++L0) dj=some v∧WW ops L0 dj v m l ((o.dst.getD 0,undef)::E)
theorem kY {fin:cB→cL→Prop} (m:Nat) {j dj:Nat} {wt b:Bool} {l rest:List Oper} {ds:List Nat} (hg:(l.head?).bind (·.guard)=some (j,wt)) (hj:(ops[j]?).bind (·.dst)=some dj) (hw:b=!wt)
  (hs:IL j wt dj k m l=some (ds,rest)) (hq:WW ops L0 dj (.bool b) m l E) (h:DF P r ops ms D k M w0 H0 Hs σ L0 pp fin (i+m) rest (ud ds E) F):DF P r ops ms D k M w0 H0 Hs σ L0 pp fin i l E F:=by
 clear hg
 induction m generalizing l E ds i with
 | zero=>cases hs;exact h
 | succ m ih =>
  obtain ⟨d,op,ty,pos,af,l',q',rfl,h1,h2,h3,h4⟩:=vD hs;cases h2;refine .det rfl (fun a w K hS hA _=>TG.pa hS hA (gF hj hq.1 hw h3 aG)) (ih h1 hq.2 ?_);rw [show i+1+m=i+(m+1) by omega];exact h
end
def lks (L:cB):cB→List (Option Value)
 | []=>[]
 | (k,_)::r=>lk L k::lks L r
def vls:cB→List (Option Value)
 | []=>[]
 | (_,v)::r=>some v::vls r
theorem QU {L:cB}:∀ {L':cB},lks L L'=vls L'→PK L L'
 | [],_=>trivial
 | (_,_)::_,h=>by
  injection h with h1 h2;exact ⟨h1,QU h2⟩
section
variable {P:Program} {r:Option Nat} {n rt:aV} {e:List (Nat×aV)} {p:List PanicEntry→aV} {ops:Array Oper} {rest:List Oper} {d:Nat} {ty:TypeId} {pos:String} {af:Array Edge} {x:Fr} {Hs:List Hp} {σ:aM} {L:cB}
theorem aB {id:Nat} {l:List Oper} {c:Code} (h:TG x Hs σ L (O P r l.toArray (W P r c n rt e p) p l)):TG x Hs σ L (W P r (.seq (.region id l.toArray false) c) n rt e p):=sq (rg h)
theorem aC {y:Operand} {v:Value} (hy:eb d x.k (ev L y)=some v) (h:TG x Hs σ ((d,v)::L) n):OG P r ops n p x Hs σ L [⟨some d,.assign y,ty,pos,af,none⟩]:=a1 hy (on h)
theorem aU {s:TypeId} {y:Operand} {ad:Addr} {i sz:Nat} (off:Nat) {fs:Array Field} {f:Field} (hu:P.underlying s=some (.struct fs)) (h0:(Nat.blt d x.k,ev L y,fs[i]?,f.offset)=(true,some (.pointer (some ad)),some f,off)) (hz:∀ w,(Go.sizeOf f.type).run P w=.ok (sz+1) w) (h:OG P r ops n p x Hs σ ((d,.pointer (some (ad.add off)))::L) rest):OG P r ops n p x Hs σ L (⟨some d,.fieldAddr s y i,ty,pos,af,none⟩::rest) :=
 fb off hu (congrArg (·.1) h0) (congrArg (·.2.1) h0) (congrArg (·.2.2.1) h0) (congrArg (·.2.2.2) h0) hz h
theorem aR {t:TypeId} {y:Operand} {ad:Addr} {cs:List Value} {v:Value} (hag:∀ w,(isAgg t).run P w=.ok false w) (h0:(Nat.blt d x.k,ev L y)=(true,some (.pointer (some ad)))) (hc:Sr x Hs σ ad cs) (hv:cs[0]?=some v) (h:OG P r ops n p x Hs σ ((d,v)::L) rest):OG P r ops n p x Hs σ L (⟨some d,.load t y,ty,pos,af,none⟩::rest) :=
 ld hag (congrArg (·.1) h0) (congrArg (·.2) h0) hc hv h
theorem bB {y:Operand} {xs:List Operand} {ats:Array TypeId} {f:FuncId} {first cap:List Value} {vs args:List Value} {v:Value} (hcall:∀ args w,(callFunc f args).run P w=.ok (.enter f args) w) (h0:(Nat.blt d x.k,ev L y,mD L xs,first++vs++cap)=(true,some (.func (.func f) first.toArray cap.toArray),some vs,args)) (hc:∀ w H,H.le (hp w)→mM Hs H→Calls P f args.toArray w (bJ x.M w v)) (h:OG P r ops n p x Hs σ ((d,v)::L) rest):OG P r ops n p x Hs σ L (⟨some d,.call ⟨.value y,xs.toArray,ats⟩,ty,pos,af,none⟩::rest) :=
 mG hcall (congrArg (·.1) h0) (congrArg (·.2.1) h0) (congrArg (·.2.2.1) h0) (congrArg (·.2.2.2) h0) hc h
end
section
variable {P:Program} {fn:Func} {M:Prop} {w0:World} {H0:Hp} {k:Nat} {Hs:List Hp} {σ:aM} {L:cB}
theorem cuE {D:List Deferred} {L':cB} (h:lks L L'=vls L'):∀ a w,St M w0 H0 Hs σ w→bQ D k a L→St M w0 H0 Hs σ w∧bQ D k a L':=cu (QU h)
theorem bQ.cuE {D:List Deferred} {a:Act} {L':cB} (hA:bQ D k a L) (h:lks L L'=vls L'):bQ D k a L':=hA.cut (QU h)
theorem cK {t:Tmp} {v:Value} (hr:fn.results = #[.tmp t]) (hv:lk L t=some v):∀ a w,St M w0 H0 Hs σ w→bQ [] k a L→Rt P fn (bJ M w0 v) a w:=fun _ _ hS hA=>dT hA hr hv ⟨rfl,hS.ext⟩
theorem qS {t u:Tmp} {v z:Value} (hr:fn.results = #[.tmp t,.tmp u]) (hv:lk L t=some v) (hz:lk L u=some z):∀ a w,St M w0 H0 Hs σ w→bQ [] k a L→Rt P fn (bJ M w0 (.tuple #[v,z])) a w:=fun _ _ hS hA=>mW hA hr hv hz ⟨rfl,hS.ext⟩
theorem WX {t u s:Tmp} {v z y:Value} (hr:fn.results = #[.tmp t,.tmp u,.tmp s]) (hv:lk L t=some v) (hz:lk L u=some z) (hy:lk L s=some y):∀ a w,St M w0 H0 Hs σ w→bQ [] k a L→Rt P fn (bJ M w0 (.tuple #[v,z,y])) a w:=fun _ _ hS hA=>PR hA hr hv hz hy ⟨rfl,hS.ext⟩
end
section
variable {P:Program} {r:Option Nat} {n rt:aV} {e:List (Nat×aV)} {p:List PanicEntry→aV} {D:List Deferred} {k:Nat} {M:Prop} {w0:World} {H0:Hp} {Hs:List Hp} {σ:aM} {L:cB}
theorem DF.dc {ops:Array Oper} {ms:List Nat} {L0:cB} {pp:List PanicEntry→aV} {fin:cB→cL→Prop} {i:Nat} {l:List Oper} {E:cB} {F:cL} (h:DF P r ops ms D k M w0 H0 Hs σ L0 pp fin i l E F):DC P r ops ms D k M w0 H0 Hs L0 pp [] [] none (fun τ E F=>τ=σ∧fin E F) [] σ i l E F:=by
 induction h with
 | nil h=>exact .nil ⟨rfl,h⟩
 | det hd hk _ ih=>exact .det (· = σ) rfl rfl rfl trivial rfl hd (fun τ hτ=>by subst hτ;exact hk) ih
 | und x0 f G hm hu hd hk _ ih=>exact .und x0 f G (· = σ) rfl rfl rfl trivial hm hu rfl hd (fun τ hτ=>by subst hτ;exact hk) ih
theorem eH {id:Nat} {all:List Oper} (m:Nat) (hmix:P.follows .mixedOrders=true) (hchk:lS true all m k (L.map (·.1)) []=true) (hm:Nat.ble m all.length=true)
  (h:DF P r all.toArray (iQ all []) D k M w0 H0 Hs σ L p (fun E F=>∀ K,jW F K→TG ⟨D,k,M,w0,H0⟩ (K::Hs) σ (E++L) (O P r all.toArray n p (all.drop m))) 0 (all.take m) [] []) (hst:((all.take m).zipIdx.all fun q=>q.1.dst.isSome||([]:List Nat).contains q.2)=true:=by kernel_rfl) :
  TG ⟨D,k,M,w0,H0⟩ Hs σ L (W P r (.region id all.toArray true) n rt e p):=fun a w hS hA=>by
 have hm':m≤all.length:=by simpa using hm
 refine wpIn_region_any hmix ?_;have hS':St M w0 H0 Hs σ { w with drawn:=w.drawn+1 }:=hS.drew;have hz:∀ j,(Array.replicate all.toArray.size false).getD j false=false:=fun j=>by
  by_cases h:j<all.length
  ·simp [h]
  simp [h]
 refine pE (us:=[]) (T:=[]) (Sg:=none) (fun _ _ _ h=>h) (fun h=>by cases h) (CV hchk) hst rfl hm' _ (fun τ E F h a2 w2 K hS2 hA2 hF=>by obtain ⟨hτ,h⟩:=h;subst hτ;exact h K hF a2 w2 hS2 hA2) _ _ _ _ (by simp) ?_ ?_ (.inl ⟨fun t _=>hz t,fun t ht=>by simp at ht,_,σ,σ,hS'.vis_self,hA,h.dc.run (σ0:=σ) (fun j=>by rw [hz];rfl) (fun q hq=>by simp at hq) (.inl ⟨rfl,rfl⟩)⟩)
 ·unfold CR;refine Nat.le_trans List.countP_le_length ?_;simp
 intro i o hi;rw [hz] at hi;cases hi
end
theorem mM.o {K H:Hp} {r:List Hp} (h:mM (K::r) H):K.le H:=h 0 K rfl
theorem mM.i {a K H:Hp} {r:List Hp} (h:mM (a::K::r) H):K.le H:=h 1 K rfl
theorem mM.u {a b K H:Hp} {r:List Hp} (h:mM (a::b::K::r) H):K.le H:=h 2 K rfl
theorem mM.v {a b c K H:Hp} {r:List Hp} (h:mM (a::b::c::K::r) H):K.le H:=h 3 K rfl
theorem mM.x {a b c d K H:Hp} {r:List Hp} (h:mM (a::b::c::d::K::r) H):K.le H:=h 4 K rfl
abbrev SJ (M:Prop) (W:World) (H:Hp) (Hs:List Hp) (σ:aM) (k:Nat) (L:cB):aV:=fun a w=>St M W H Hs σ w∧bQ [] k a L
def DT (L:cB):List Nat→cB→Option cB
 | [],acc=>some acc
 | k::ks,acc=>match lk L k with
  | some v=>DT L ks ((k,v)::acc)
  | none=>none
section
variable {P:Program} {r:Option Nat} {n rt:aV} {e:List (Nat×aV)} {p:List PanicEntry→aV} {x:Fr} {Hs:List Hp} {σ:aM} {L L0:cB}
theorem gG {c:Code} (ks:List Nat) (hs:DT L ks []=some L0) (F:cB→aV) (h:TG x Hs σ L (W P r c (F L0) rt e p)) (h2:∀ a w,F L0 a w→n a w):TG x Hs σ L (W P r c n rt e p):=jn (F L0) h h2
theorem eU {c:Code} (ks:List Nat) (new:cB) (hs:DT L ks new=some L0) (h:TG x Hs σ L (W P r c (fun a w=>St x.M x.w0 x.H0 Hs σ w∧bQ x.D x.k a L0) rt e p)) (h2:TG x Hs σ L0 n):TG x Hs σ L (W P r c n rt e p):=jn _ h fun a w q=>h2 a w q.1 q.2
theorem jO {c:Code} {s ε:Type} {step:s→Option (s⊕ε)} {s0:s} {z:ε} (ks:List Nat) (hs:DT L ks []=some L0) (hl:bC step s0=some z) (F:cB→s→cB) (h0:∀ a w,St x.M x.w0 x.H0 Hs σ w→bQ x.D x.k a L→St x.M x.w0 x.H0 Hs σ w∧bQ x.D x.k a (F L0 s0))
  (hI:∀ j s y,step s=some y→dF step j z y→TG x Hs σ (F L0 s) (W P r c (fun a w=>∃ s',(∃ m,m<j∧tY step m s' z)∧St x.M x.w0 x.H0 Hs σ w∧bQ x.D x.k a (F L0 s')) rt e p)):TG x Hs σ L (W P r (.loop c) n rt e p):=lp hl (fun s a w=>St x.M x.w0 x.H0 Hs σ w∧bQ x.D x.k a (F L0 s)) h0 fun j s y h1 h2 a w q=>hI j s y h1 h2 a w q.1 q.2
theorem jZ {c:Code} {s ε:Type} {step:s→Option (s⊕ε)} {s0:s} {z:ε} (ks:List Nat) (hs:DT L ks []=some L0) (hl:bC step s0=some z) (F:cB→s→aV) (h0:∀ a w,St x.M x.w0 x.H0 Hs σ w→bQ x.D x.k a L→F L0 s0 a w)
  (hI:∀ j s y,step s=some y→dF step j z y→∀ a w,F L0 s a w→W P r c (fun a w=>∃ s',(∃ m,m<j∧tY step m s' z)∧F L0 s' a w) rt e p a w):TG x Hs σ L (W P r (.loop c) n rt e p):=lp hl (F L0) h0 hI
end
section
variable {P:Program} {r:Option Nat} {ops:Array Oper} {ms:List Nat} {D:List Deferred} {k:Nat} {M:Prop} {w0:World} {H0:Hp} {Hs:List Hp} {σ:aM} {L0:cB} {pp:List PanicEntry→aV} {i:Nat} {rest:List Oper} {E:cB} {F:cL} {d:Nat} {v:Value}
theorem dC {fin:cB→cL→Prop} {ty:TypeId} {pos:String} {af:Array Edge} {y:Operand} (hy:eb d k (ev (wJ ((⟨some d,.move y,ty,pos,af,none⟩:Oper).looksAt ops) E++L0) y)=some v) (h:DF P r ops ms D k M w0 H0 Hs σ L0 pp fin (i+1) rest ((d,v)::E) F):DF P r ops ms D k M w0 H0 Hs σ L0 pp fin i (⟨some d,.move y,ty,pos,af,none⟩::rest) E F:=dt rfl (m1 hy aG) h
end
end Pk
namespace Pk
open Go Go.Proofs
section
variable {P:Program} {n rt:aV} {e:List (Nat×aV)} {p:List PanicEntry→aV} {D:List Deferred} {k:Nat} {M:Prop} {w0:World} {H0:Hp} {Hs:List Hp} {σ:aM} {L:cB} {all:List Oper}
end
end Pk
namespace Pk
open Go
section
variable {α σ ε τ:Type}
theorem kD {p:Prop} [Decidable p] (h:p) (x:Option α):cA p x=x:=JN h x
end
section
variable {α β:Type}
end
end Pk
namespace Pk
open Go Go.Lib
def vE (c:UInt8):Bool:=decide (48≤c.toNat∧c.toNat≤57)
def mP (l:aE) (a:Nat):Nat:=l.foldl (fun a c=>10*a+(c.toNat-48)) a
theorem pG (l m:aE) (a:Nat):mP (l++m) a=mP m (mP l a):=by simp [mP]
theorem zK {n:Nat} (h:n<256):(UInt8.ofNat n).toNat=n:=by simp;omega
theorem DU {n:Nat} (h:n<10):vE (UInt8.ofNat (48+n))=true:=by
 unfold vE;rw [zK (by omega)];simp;omega
theorem sW (u:Nat):(decDigits u).all vE=true:=by
 induction u using Nat.strongRecOn with
 | _ u ih =>
  rw [decDigits]
  split
  ·simp only [List.all_cons,List.all_nil,Bool.and_true];exact DU ‹_›
  rw [List.all_append,ih (u/10) (by omega)];simp only [List.all_cons,List.all_nil,Bool.and_true,Bool.true_and];exact DU (show u%10<10 by omega)
theorem zL (u:Nat):mP (decDigits u) 0=u:=by
 induction u using Nat.strongRecOn with
 | _ u ih =>
  rw [decDigits]
  split
  ·simp only [mP,List.foldl_cons,List.foldl_nil];rw [zK (by omega)];omega
  rw [pG,ih (u/10) (by omega)];simp only [mP,List.foldl_cons,List.foldl_nil];rw [zK (by omega)];omega
theorem sX (u:Nat):decDigits u≠[]:=by
 rw [decDigits];split <;> simp
theorem lX {u k:Nat} (h:u<10 ^ k) (hk:1≤k):(decDigits u).length≤k:=by
 induction k generalizing u with
 | zero=>omega
 | succ k ih =>
  rw [decDigits]
  split
  ·simp
  rw [List.length_append];have h1:u/10<10 ^ k:=by rw [Nat.pow_succ] at h;omega
  have hk1:1≤k:=by
   rcases k with _|k
   ·simp at h1;omega
   omega
  have:=ih h1 hk1;simp;omega
theorem vF {u:Nat} (h:1≤u):(decDigits u).head?≠some 48:=by
 induction u using Nat.strongRecOn with
 | _ u ih =>
  rw [decDigits]
  split
  ·simp only [List.head?_cons,ne_eq,Option.some.injEq];intro e;have:=congrArg UInt8.toNat e;rw [zK (by omega)] at this;have:(48:UInt8).toNat=48:=rfl;omega
  rw [List.head?_append];have:=ih (u/10) (by omega) (by omega)
  cases hd:(decDigits (u/10)).head? with
  | none=>rw [List.head?_eq_none_iff] at hd;exact absurd hd (sX _)
  | some c=>rw [hd] at this;simpa using this
theorem sY:∀ (l:aE) (a:Nat),l.all vE=true→mP l a<(a+1)*10 ^ l.length
 | [],a,_=>by simp [mP]
 | c::l,a,h=>by
  simp only [List.all_cons,Bool.and_eq_true] at h;have ih:=sY l (10*a+(c.toNat-48)) h.2;have hc:=h.1;simp only [vE,decide_eq_true_eq] at hc;have:mP (c::l) a=mP l (10*a+(c.toNat-48)):=rfl;rw [this,List.length_cons,Nat.pow_succ];refine Nat.lt_of_lt_of_le ih ?_;rw [Nat.mul_comm (10 ^ l.length) 10,← Nat.mul_assoc];exact Nat.mul_le_mul_right _ (by omega)
end Pk
namespace Pk
open Go
section
variable {α β σ ε:Type}
end
section
variable {α:Type}
end
section
variable {S ρ:Type}
end
section
variable {α ρ:Type}
end
section
variable {α β σ ε S ρ:Type}
end
end Pk
