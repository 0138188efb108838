/-
  The plain laws: what the models come to.
-/
import Derived.Test.YtgdanfnnilcjgaaGreatDoorMade
import Derived.Test.YtgdanfnnilcjgaaGreatDoorKitSix
set_option linter.all false
namespace T4
open Go Go.Proofs Pk
def In (n lo hi:Int):Bool:=decide (lo≤n∧n≤hi)
def IK (c:UInt8):Bool:=decide (33≤c.toNat∧c.toNat≤126)
def gA (s:aF):Bool:=s.all IK&&In s.length 1 32
def jI (l:List aF) (most:Int):Bool:=l.all gA&&decide ((l.length:Int)≤most)
def iI (l:List aF) (most:Int):Bool:=l.all (fun s=>decide (s.length≤40))&&decide ((l.length:Int)≤most)
def eJ (n:cA):Bool:=gA n.text&&In n.value 0 999999999
def fV (l:List aF):Bool:=!l.isEmpty&&jI l 5
def aM.all (l:aM):List aF:=l.numbers.map (·.text)++l.names.flatten++l.nots
def dD (l:aM):Int :=
 if l.numbers.all eJ&&l.names.all fV&&(jI l.nots 40&&decide (l.numbers.length≤40)&&decide (l.names.length≤40)) then (if l.all.Nodup then 0 else 6) else 1
def BA:aF→Int→Int
 | [],n=>n
 | c::s,n=>if c.toNat < 48∨57 < c.toNat then -1 else BA s (10*n+(c.toNat - 48:Int))
def fW (s:aF):Int:=if s.length < 1∨9 < s.length∨(s.head?=some 48∧1 < s.length) then -1 else BA s 0
def iP (s:aF):aW:=if 0≤fW s then ⟨1,fW s⟩ else ⟨0,0⟩
def eK:List (List aF)→Int→List (aF×aW)
 | [],_=>[]
 | l::ls,i=>l.map (fun s=>(s,(⟨2,i⟩:aW)))++eK ls (i+1)
def fI (l:aM):List (aF×aW):=l.numbers.map (fun n=>(n.text,(⟨1,n.value⟩:aW)))++(eK l.names 0++l.nots.map (fun s=>(s,(⟨3,0⟩:aW))))
def kM (l:aM) (s:aF):aW:=(dR (fI l) s).getD (iP s)
def eE (l:aM) (t:List aF):List aW:=(t.map (kM l)).filter (fun m=>decide (m.kind≠0))
def oB (s:bW):Bool:=(decide (s.kind=1)||decide (s.kind=2))&&In s.dP 0 999999999&&In s.eC 0 999999999
def mD (l:List bW):Int:=if 20 < l.length then 3 else if l.all oB then 0 else 1
def sw (x y:aW) (s:bW):Bool:=decide (x.kind=y.kind)&&decide (s.kind=x.kind)&&decide (s.dP=x.value)&&decide (s.eC=y.value)
def fD (l:List bW) (x y:aW):Bool:=decide (x=y)||l.any (sw x y)
def dZ (sw:List bW):List aW→List aW→Bool
 | [],[]=>true
 | a::l,b::m=>fD sw a b&&dZ sw l m
 | _,_=>false
structure qO (l:aM):Prop where
 numbers:l.numbers.length≤45
 names:l.names.length≤45
 nots:l.nots.length≤45
 number:∀ n∈l.numbers,n.text.length≤40
 name:∀ x∈l.names,x.length≤8∧∀ s∈x,s.length≤40
 not_:∀ s∈l.nots,s.length≤40
def iZ (w:dJ):Bool:=gA w.text&&In w.speaker 0 999
def dL (r:aY):Bool:=r.words.all iZ&&decide ((r.words.length:Int)≤80)&&In r.out 0 100000&&In r.within 0 100000
def jZ (r:aY) (i j:Int):List aF:=((r.words.drop i.toNat).take (j.toNat - i.toNat)).map (·.text)
def rJ (r:aY) (i m:Int):Bool:=decide (0≤i)&&match r.words[i.toNat]? with
 | some x=>decide (x.speaker=m)
 | none=>false
def gL (x y:aE):Bool :=
 if x.cut=0∧y.cut=0 then decide (x.aI=y.aI) else if x.cut=0 then decide (y.aI < x.aI∧x.aI < y.aI+y.cut) else if y.cut=0 then decide (x.aI < y.aI∧y.aI < x.aI+x.cut) else decide (x.aI < y.aI+y.cut∧y.aI < x.aI+x.cut)
def nD (x y:aE) (i j:Int):Bool:=if x.minute=y.minute then (if x.by_=y.by_ then decide (i < j) else decide (x.by_ < y.by_)) else decide (x.minute < y.minute)
def BB (l:aM) (sw:List bW):Bool:=(l.numbers.take 46).all (fun n=>decide (n.text.length≤40))&&(l.names.take 46).all (fun x=>iI x 8)&&(decide ((l.numbers.length:Int)≤45)&&decide ((l.names.length:Int)≤45)&&iI l.nots 45&&decide ((sw.length:Int)≤25))
def OC (r:aY) (q:List aE):Bool:=(r.words.take 86).all (fun w=>decide (w.text.length≤40))&&(q.take 26).all (fun x=>iI x.cV 12)&&(decide ((r.words.length:Int)≤85)&&decide ((q.length:Int)≤25))
def qP (l:aM) (sw:List bW):Int:=if dD l=0 then mD sw else dD l
def sI (l:aM) (sw:List bW) (r:aY) (q:List aE):Int:=if qP l sw=0 then (if dL r then (if 20 < q.length then 3 else 0) else 1) else qP l sw
def eI (l:List aE) (i k:Int):Bool:=match l[i.toNat]?,l[k.toNat]? with
 | some x,some y=>nD x y i k
 | _,_=>false
def iQ (r:aY) (m:Int):Nat→Int→Bool
 | 0,_=>true
 | n+1,i=>rJ r i m&&iQ r m n (i+1)
def kN (l:aM) (sw:List bW) (r:aY) (q:aE):Int :=
 if q.aI < 0∨q.cut < 0∨(r.words.length:Int) - q.cut < q.aI then 2
 else if 8 < q.cut∨jI q.cV 8=false∨(q.cut=0∧(q.cV.length:Int)=0)∨¬(0≤q.by_∧q.by_≤999) then 1
 else if q.cut=0∧rJ r (q.aI - 1) q.by_=false∧rJ r q.aI q.by_=false then 5
 else if iQ r q.by_ q.cut.toNat q.aI=false then 5
 else if q.minute < r.out∨r.out+r.within < q.minute then 11
 else if dZ sw (eE l (jZ r q.aI (q.aI+q.cut))) (eE l q.cV) then 0 else 9
end T4
namespace T4
open Go Go.Proofs Pk
@[simp] theorem TW (n a b:Int):HK n a b=some (In n a b):=by
 unfold HK In;by_cases h:a≤n <;> simp [h]
@[simp] theorem MS (n a b:Int):BG n a b=some (In n a b):=by
 unfold BG In;by_cases h:a≤n <;> simp [h]
@[simp] theorem TX (n:Int):FS n=some (In n 0 999999999):=by simp [FS]
theorem IL (c:UInt8):IK c=true↔¬((c.toNat:Int) < 33)∧¬(126 < (c.toNat:Int)):=by
 unfold IK;rw [decide_eq_true_iff];omega
abbrev Sh {α:Type} (l:List α):Prop:=l.length≤1073741824
theorem e24 {s:aF} (h:Sh s):LH s=some (gA s):=by
 unfold LH;have hl:aQ (vK s) 0=some (if s.all IK then .inl () else .inr false):=by
  refine iH s IK _ _ (fun i x hi hx=>?_) ?_
  ·have h1:=IL x;unfold vK;rw [if_pos (by omega),bU (by constructor <;> omega),hx];by_cases a:(x.toNat:Int) < 33 <;> by_cases b:126 < (x.toNat:Int) <;> simp only [a,b,not_true,not_false_iff,and_true,and_self,false_and,and_false,iff_true,iff_false,Bool.not_eq_true] at h1 <;> simp [a,b,h1]
  unfold vK;simp
 rw [hl];by_cases a:s.all IK
 ·simp [a,gA]
 simp only [gA];simp [a]
theorem e26 {l:List aF} (h:∀ s∈l,Sh s) (n:Int):NM l n=some (jI l n):=by
 unfold NM;have hl:aQ (vL l) 0=some (if l.all gA then .inl () else .inr false):=by
  refine iH l gA _ _ (fun i x hi hx=>?_) ?_
  ·unfold vL;rw [if_pos (by omega),hx,Option.bind_some,e24 (h x (List.mem_of_getElem? hx))];cases gA x <;> simp
  unfold vL;simp
 rw [hl];by_cases a:l.all gA
 ·simp [a,jI]
 simp only [jI];simp [a]
theorem e23 (l:List aF) (n:Int):LG l n=some (iI l n):=by
 unfold LG;have hl:aQ (vJ l) 0=some (if l.all (fun s=>decide (s.length≤40)) then .inl () else .inr false):=by
  refine iH l _ _ _ (fun i x hi hx=>?_) ?_
  ·unfold vJ;rw [if_pos (by omega),hx,Option.bind_some];by_cases a:x.length≤40
   ·rw [if_neg (by omega)];simp [a]
   rw [if_pos (by omega)];simp [a]
  unfold vJ;simp
 rw [hl];by_cases a:l.all (fun s=>decide (s.length≤40))
 ·simp [a,iI]
 simp only [iI];simp [a]
end T4
namespace T4
open Go Go.Proofs Pk
theorem q73 (l:List bW) (f:bW→Option Bool):QI l f=vF l f:=rfl
theorem q74 (l:List (List aF)) (f:List aF→Option Bool):HT l f=vF l f:=rfl
theorem q77 (l:List aF) (f:aF→Option Bool):xM l f=vF l f:=rfl
theorem q85 (l:List cA) (f:cA→Option Bool):HR l f=vF l f:=rfl
theorem aAr (l:List UInt8) (f:Int→Option Bool):HQ l f=vF l (fun x=>f (x.toNat:Int)):=rfl
theorem aAs (l:List bW) (v:bW):HV l v=LB l v:=rfl
theorem aAt (c:UInt8):xK (c.toNat:Int)=some (IK c):=by
 unfold xK IK;by_cases h:(33:Int)≤(c.toNat:Int)
 ·simp only [h,if_true,Option.bind_some];congr 1;rw [decide_eq_decide];omega
 simp only [h,if_false,Option.bind_some];congr 1;symm;rw [decide_eq_false_iff_not];omega
theorem e79 {s:aF} (h:Sh s):wO s=some (gA s):=by
 unfold wO;rw [MS,Option.bind_some];by_cases a:In (s.length:Int) 1 32=true
 ·rw [if_pos a,bU h,aAr,gC IK (fun c _=>aAt c)];simp [gA,a]
 rw [if_neg a];simp only [gA];simp [a]
theorem MT {l:List aF} (h:∀ s∈l,Sh s):xM l wO=some (l.all gA):=by
 rw [q77];exact gC gA (fun s hs=>e79 (h s hs))
theorem aAv {n:cA} (h:Sh n.text):xL n=some (eJ n):=by
 unfold xL eJ;rw [e79 h,Option.bind_some];cases gA n.text <;> simp
theorem aAw {l:List aF} (h:∀ s∈l,Sh s):xN l=some (fV l):=by
 unfold xN fV jI;rw [MS,Option.bind_some,MT h];by_cases a:In (l.length:Int) 1 5=true
 ·rw [if_pos a]
  have:l≠[]∧(l.length:Int)≤5:=by
   simp only [In,decide_eq_true_eq] at a;exact ⟨fun e=>by subst e;simp at a,a.2⟩
  simp [this.1,this.2]
 rw [if_neg a];simp only [In,decide_eq_true_eq] at a
 cases l with
 | nil=>simp
 | cons x l =>
  simp only [Option.bind_some,List.isEmpty_cons,Bool.not_false,Bool.true_and];congr 1;symm;rw [Bool.and_eq_false_iff];right;simp only [List.length_cons] at a ⊢;rw [decide_eq_false_iff_not];omega
theorem e75 (s:bW):JG s=some (oB s):=by
 unfold JG oB;rw [TX,TX];by_cases a:s.kind=1
 ·simp only [a];cases In s.dP 0 999999999 <;> simp
 by_cases b:s.kind=2
 ·simp only [b];cases In s.dP 0 999999999 <;> simp
 simp [a,b]
theorem e77 (l:List bW):QI l JG=some (l.all oB):=by rw [q73];exact gC oB (fun s _=>e75 s)
theorem aAx (r:rules) (a b:aW):vP r a b=some (decide (a=b)||(decide (a.kind=b.kind)&&decide ((⟨a.kind,a.value,b.value⟩:bW)∈r.bK))):=by
 unfold vP;by_cases h:a=b
 ·simp [h]
 by_cases k:a.kind=b.kind
 ·rw [aAs,AG];simp [h,k]
 simp [h,k]
theorem xV (l:List bW) (a b:aW):fD l a b=(decide (a=b)||(decide (a.kind=b.kind)&&decide ((⟨a.kind,a.value,b.value⟩:bW)∈l))):=by
 unfold fD;congr 1;rw [Bool.eq_iff_iff];simp only [List.any_eq_true,sw,Bool.and_eq_true,decide_eq_true_eq];constructor
 ·rintro ⟨s,hs,⟨⟨k,h1⟩,h2⟩,h3⟩;refine ⟨k,?_⟩;cases s;simp only at h1 h2 h3;subst h1 h2 h3;exact hs
 rintro ⟨k,h⟩;exact ⟨_,h,⟨⟨k,rfl⟩,rfl⟩,rfl⟩
theorem SI (r:rules) (a b:aW):vP r a b=some (fD r.bK a b):=by rw [aAx,xV]
theorem e37 {l:List aF} (h:Sh l):LK l=some l:=by unfold LK;rw [bU (by simpa using h)];simp
end T4
namespace T4
open Go Go.Proofs Pk
theorem e100 (s:aF):EQ s=some (fW s):=by
  have hl:∀ (h:s.length≤9),aQ (qN s) (0,0)=some (wN (ε:=Int⊕Int) (fun _ x a=>if x.toNat < 48∨57 < x.toNat then .inr (.inr (-1)) else .inl (10*a+((x.toNat:Int) - 48))) (fun a=>.inl a) s 0 0):=by
    intro h;have hp:∀ i,i≤9→((10 ^ i:Nat):Int)≤1000000000:=fun i hi=>by
      have:=Nat.pow_le_pow_right (n:=10) (by decide) hi;exact Int.le_trans (Int.ofNat_le.2 this) (by decide)
    refine lZ s _ _ (fun i a=>0≤a∧a+1≤((10 ^ i:Nat):Int)) (fun i x a hi hx ha=>?_) (fun i x a a' hi hx ha hg=>?_) (fun a ha=>?_) ⟨by omega,by simp⟩
    · have:=hp i (by omega);have hx2:=UInt8.toNat_lt x;unfold qN;rw [if_pos (by simpa using hi)];simp only [hx,Option.bind_some];by_cases h1:x.toNat < 48
      · rw [if_pos (by omega),Option.bind_some,if_pos rfl,if_pos (Or.inl h1)]
      rw [if_neg (by omega),Option.bind_some];by_cases h2:57 < x.toNat
      · rw [if_pos (by simp;omega),if_pos (Or.inr h2)]
      rw [if_neg (by simp;omega),if_neg (by omega),bU (by omega),bU (by omega),bU (by omega),bU (by omega)]
    · have hx2:=UInt8.toNat_lt x
      split at hg
      · cases hg
      rename_i h1
      simp only [Sum.inl.injEq] at hg;subst hg;rw [Nat.pow_succ]
      push_cast
      push_cast at ha
      omega
    unfold qN;simp
  have hd:∀ (l:aF) (i:Nat) (a:Int),(match wN (ε:=Int⊕Int) (fun _ x a=>if x.toNat < 48∨57 < x.toNat then .inr (.inr (-1)) else .inl (10*a+((x.toNat:Int) - 48))) (fun a=>.inl a) l i a with | .inr z=>some z | .inl t=>some t)=some (BA l a):=by
    intro l
    induction l with
    | nil=>intro i a;rfl
    | cons x l ih =>
      intro i a;simp only [wN,BA];by_cases h:x.toNat < 48∨57 < x.toNat
      · simp [h]
      simp only [if_neg h];exact ih (i+1) _
  unfold EQ fW;by_cases h1:s.length < 1
  · simp only [show ((s.length:Int) < 1) by omega,if_true,Option.bind_some];rw [if_pos (Or.inl h1)]
  rw [if_neg (by omega)];by_cases h2:9 < s.length
  · simp only [show (9 < (s.length:Int)) by omega,if_true,Option.bind_some];rw [if_pos (Or.inr (Or.inl h2))]
  rw [if_neg (by omega)]
  cases s with
  | nil=>simp at h1
  | cons c s =>
    simp only [List.getElem?_cons_zero,Option.bind_some,List.head?_cons,Option.some.injEq];have hc:(c.toNat:Int)=48↔c=48:=by
      constructor
      · intro h;exact UInt8.toNat_inj.1 (by have:c.toNat=48 := by omega
                                            rw [this];rfl)
      rintro rfl;rfl
    by_cases h3:c=48
    · rw [if_pos (hc.2 h3),Option.bind_some];by_cases h4:1 < (c::s).length
      · rw [if_pos (by rw [decide_eq_true_iff];omega),if_pos (Or.inr (Or.inr ⟨h3,h4⟩))]
      rw [if_neg (by rw [decide_eq_true_iff];omega),if_neg (by rintro (h | h | h);exact h1 h;exact h2 h;exact h4 h.2),hl (by omega)];exact hd _ 0 0
    rw [if_neg (by rw [hc];exact h3),Option.bind_some,if_neg (by simp),if_neg (by rintro (h | h | h);exact h1 h;exact h2 h;exact h3 h.1),hl (by omega)];exact hd _ 0 0
theorem mE {α:Type} (a b:List (aF×α)) (s:aF):dR (a++b) s=(dR a s).or (dR b s):=by
 induction a with
 | nil=>rfl
 | cons x a ih=>simp only [List.cons_append,dR];by_cases h:s=x.1 <;> simp [h,ih]
theorem pM {α ε:Type} (key:α→aF) (val:α→aW) (s:aF) (F:aW→ε) (out:ε):∀ (l:List α) (i:Nat),rY (fun _ x=>if key x=s then some (F (val x)) else none) out l i=(match dR (l.map fun x=>(key x,val x)) s with | some m=>F m | none=>out)
 | [],_=>rfl
 | x::l,i=>by
  have ih:=pM key val s F out l (i+1);simp only [rY,List.map_cons,dR];by_cases h:key x=s
  ·simp [h]
  rw [if_neg h,if_neg (Ne.symm h)];exact ih
theorem e57 (l:aM) (s:aF):QY l s=some (kM l s):=by
 have h1:aQ (vT l s) 0=some (match dR (l.numbers.map fun n=>(n.text,(⟨1,n.value⟩:aW))) s with | some m=>.inr m | none=>.inl ()):=by
  rw [← pM (fun n:cA=>n.text) (fun n=>⟨1,n.value⟩) s (fun m=>(Sum.inr m:Unit⊕aW)) (.inl ()) l.numbers 0];refine jP l.numbers _ _ (fun i x hi hx=>?_) ?_
  ·unfold vT;rw [if_pos (by omega),hx,Option.bind_some];by_cases h:x.text=s <;> simp [h]
  unfold vT;simp
 have h4:aQ (vW l s) 0=some (match dR (l.nots.map fun n=>(n,(⟨3,0⟩:aW))) s with | some m=>.inr m | none=>.inl ()):=by
  rw [← pM (fun n:aF=>n) (fun n=>(⟨3,0⟩:aW)) s (fun m=>(Sum.inr m:Unit⊕aW)) (.inl ()) l.nots 0];refine jP l.nots _ _ (fun i x hi hx=>?_) ?_
  ·unfold vW;rw [if_pos (by omega),hx,Option.bind_some];by_cases h:x=s <;> simp [h]
  unfold vW;simp
 have h3:∀ i x,l.names[i]?=some x→aQ (vU l i s) 0=some (match dR (x.map fun n=>(n,(⟨2,(i:Int)⟩:aW))) s with | some m=>.inr (.inr (.inr m)) | none=>.inl ()):=by
  intro i x hx;rw [← pM (fun n:aF=>n) (fun n=>(⟨2,(i:Int)⟩:aW)) s (fun m=>(Sum.inr (Sum.inr (Sum.inr m)):Unit⊕(Nat⊕(Unit⊕aW)))) (.inl ()) x 0];refine jP x _ _ (fun j y hj hy=>?_) ?_
  ·unfold vU;rw [hx,Option.bind_some,if_pos (by omega),hy,Option.bind_some];by_cases h:y=s <;> simp [h]
  unfold vU;rw [hx];simp
 have h2:aQ (vV l s) 0=some (match dR (eK l.names 0) s with | some m=>.inr m | none=>.inl ()):=by
  have hh:∀ (ls:List (List aF)) (i:Nat),rY (ε:=Unit⊕aW) (fun i x=>match dR (x.map fun n=>(n,(⟨2,(i:Int)⟩:aW))) s with | some m=>some (.inr m) | none=>none) (.inl ()) ls i=(match dR (eK ls i) s with | some m=>.inr m | none=>.inl ()):=by
   intro ls
   induction ls with
   | nil=>intro i;rfl
   | cons x ls ih =>
    intro i;simp only [rY,eK,mE]
    cases h:dR (x.map fun n=>(n,(⟨2,(i:Int)⟩:aW))) s with
    | some m=>simp
    | none=>simp only [Option.none_or];rw [ih (i+1)];rfl
  have:=hh l.names 0;rw [show ((0:Nat):Int)=0 from rfl] at this;rw [← this];refine jP l.names _ _ (fun i x hi hx=>?_) ?_
  ·unfold vV;rw [if_pos (by omega),h3 i x hx,Option.bind_some];cases dR (x.map fun n=>(n,(⟨2,(i:Int)⟩:aW))) s <;> rfl
  unfold vV;simp
 unfold QY kM fI;rw [h1,Option.bind_some,mE,mE]
 cases dR (l.numbers.map fun n=>(n.text,(⟨1,n.value⟩:aW))) s with
 | some m=>rfl
 | none =>
  simp only [h2,Option.bind_some,Option.none_or]
  cases dR (eK l.names 0) s with
  | some m=>rfl
  | none =>
   simp only [h4,Option.bind_some,Option.none_or]
   cases dR (l.nots.map fun n=>(n,(⟨3,0⟩:aW))) s with
   | some m=>rfl
   | none =>
    simp only [e100,Option.bind_some,Option.getD_none,iP];by_cases h:0≤fW s <;> simp [h]
theorem jV (f:aF→aW) (p:aW→Prop) [DecidablePred p]:∀ (l:List aF) (a:List aW),l.foldl (fun a x=>if p (f x) then a++[f x] else a) a=a++(l.map f).filter (fun m=>decide (p m))
 | [],a=>by simp
 | x::l,a=>by
  rw [List.foldl_cons,jV f p l];by_cases h:p (f x) <;> simp [h]
theorem e38 (l:aM) {t:List aF} (h:Sh t):QZ l t=some (eE l t):=by
 unfold QZ;have hl:aQ (vX t l) (0,([]:List aW))=some (t.foldl (fun a x=>if (kM l x).kind≠0 then a++[kM l x] else a) []):=by
  refine iB t _ (fun a=>a) (fun i a=>a.length≤i) (fun i x a hi hx ha=>?_) (fun i x a hi hx ha=>?_) (fun a ha=>?_) (by simp)
  ·unfold vX;rw [if_pos (by simpa using hi),hx,Option.bind_some,e57,Option.bind_some];by_cases k:(kM l x).kind≠0
   ·rw [if_pos k,bU (by show _≤_;dsimp only;omega),Option.bind_some,if_pos k]
   rw [if_neg k,Option.bind_some,if_neg k]
  ·by_cases k:(kM l x).kind≠0
   ·rw [if_pos k];simp;omega
   rw [if_neg k];omega
  unfold vX;simp
 rw [hl,Option.bind_some,jV (kM l) (fun m=>m.kind≠0)];simp [eE]
end T4
namespace T4
open Go Go.Proofs Pk
theorem zQ {l:aM} (h:qO l):(∀ n∈l.numbers,Sh n.text)∧(∀ x∈l.names,∀ s∈x,Sh s)∧(∀ s∈l.nots,Sh s) :=
 ⟨fun n hn=>Nat.le_trans (h.number n hn) (by decide),fun x hx s hs=>Nat.le_trans ((h.name x hx).2 s hs) (by decide),fun s hs=>Nat.le_trans (h.not_ s hs) (by decide)⟩
def zR (l:aM):Bool:=l.numbers.all eJ&&l.names.all fV&&(jI l.nots 40&&decide (l.numbers.length≤40)&&decide (l.names.length≤40))
theorem FA (l:aM):dD l=if zR l then (if l.all.Nodup then 0 else 6) else 1:=rfl
theorem jE {l:List (List aF)} (k:Nat) (h:∀ x∈l,x.length≤k):l.flatten.length≤k*l.length:=by
 induction l with
 | nil=>simp
 | cons x l ih =>
  have h1:=h x List.mem_cons_self;have h2:=ih (fun y hy=>h y (List.mem_cons_of_mem _ hy));simp only [List.flatten_cons,List.length_append,List.length_cons];rw [Nat.mul_succ];omega
theorem lO:∀ (l:List (List aF)) (a:List aF),l.foldl (fun a x=>a++x) a=a++l.flatten
 | [],a=>by simp
 | x::l,a=>by simp [lO l]
theorem e7 {l:aM} (h:qO l):m7 l=some (dD l):=by
 obtain ⟨s1,s2,s3⟩:=zQ h;have h1:aQ (AJ l) (0,([]:List aF))=some (if l.numbers.all eJ then .inl (l.numbers.map (·.text)) else .inr 1):=by
  have:=lZ l.numbers (fun _ x a=>if eJ x then .inl (a++[x.text]) else .inr (Sum.inr 1)) (fun a=>(Sum.inl a:List aF⊕Int)) (fun i a=>a.length≤i) (step:=AJ l) (fun i x a hi hx ha=>?_) (fun i x a a' hi hx ha hg=>?_) (fun a ha=>?_) (a0:=[]) (by simp)
  ·rw [this,nY,mA];simp
  ·have hl:=h.numbers;unfold AJ;rw [if_pos (by simpa using hi)];simp only [hx,Option.bind_some,e24 (s1 x (List.mem_of_getElem? hx)),TW];rw [bU (by omega)];unfold eJ;cases gA x.text <;> cases In x.value 0 999999999 <;> simp
  ·split at hg
   ·simp only [Sum.inl.injEq] at hg;subst hg;simp;omega
   cases hg
  unfold AJ;simp
 have h2:∀ t:List aF,t.length≤45→aQ (AK l) (0,t)=some (if l.names.all fV then .inl (t++l.names.flatten) else .inr 1):=by
  intro t ht;have:=lZ l.names (fun _ x a=>if fV x then .inl (a++x) else .inr (Sum.inr 1)) (fun a=>(Sum.inl a:List aF⊕Int)) (fun i a=>a.length≤45+8*i) (step:=AK l) (fun i x a hi hx ha=>?_) (fun i x a a' hi hx ha hg=>?_) (fun a ha=>?_) (a0:=t) (by omega)
  ·rw [this,nY,lO]
  ·have hl:=h.names;have hx8:=(h.name x (List.mem_of_getElem? hx)).1;unfold AK;rw [if_pos (by simpa using hi)];simp only [hx,Option.bind_some,e26 (s2 x (List.mem_of_getElem? hx))];rw [bU (by omega)];unfold fV
   cases x with
   | nil=>simp
   | cons y x=>simp only [List.length_cons];rw [if_neg (by omega)];cases jI (y::x) 5 <;> simp
  ·have hx8:=(h.name x (List.mem_of_getElem? hx)).1
   split at hg
   ·simp only [Sum.inl.injEq] at hg;subst hg;simp;omega
   cases hg
  unfold AK;simp
 have h4:∀ (i:Nat) (x:aF) (t:List aF),(t++l.nots)[i]?=some x→(t++l.nots).length≤1073741824→aQ (AL i t l) 0=some (if x∈(t++l.nots).take i then .inr (.inr (.inr 6)) else .inl ()):=by
  intro i x t hx hb;have hi:=KZ hx;have hlen:((t++l.nots).take i).length=i:=by rw [List.length_take];omega
  have:=iH ((t++l.nots).take i) (fun y=>decide (x≠y)) (Sum.inr (Sum.inr (Sum.inr 6)):Unit⊕(Nat⊕(Unit⊕Int))) (.inl ()) (step:=AL i t l) (fun j y hj hy=>?_) ?_
  ·rw [this];by_cases hm:x∈(t++l.nots).take i
   ·rw [if_pos hm,if_neg];simp only [List.all_eq_true,decide_eq_true_eq];exact fun c=>c x hm rfl
   rw [if_neg hm,if_pos];simp only [List.all_eq_true,decide_eq_true_eq];intro y hy e;subst e;exact hm hy
  ·rw [hlen] at hj;have hy':(t++l.nots)[j]?=some y:=by rw [List.getElem?_take_of_lt hj] at hy;exact hy
   unfold AL;rw [if_pos (by omega),hx,Option.bind_some,hy',Option.bind_some,bU (by omega)];by_cases e:x=y <;> simp [e]
  rw [hlen];unfold AL;simp
 have h3:∀ t:List aF,(t++l.nots).length≤1073741824→aQ (AM t l) 0=some (if (t++l.nots).Nodup then .inl () else .inr 6):=by
  intro t hb;have:=jP (t++l.nots) (fun i x=>if x∈(t++l.nots).take i then some (Sum.inr 6:Unit⊕Int) else none) (.inl ()) (step:=AM t l) (fun i x hi hx=>?_) ?_
  ·rw [this];exact congrArg some (rZ _ (Sum.inr 6:Unit⊕Int) (.inl ()) (t++l.nots) [] (fun i x hx=>if_pos hx) (fun i x hx=>if_neg hx) (by simp))
  ·unfold AM;rw [if_pos (by omega),h4 i x t hx hb,Option.bind_some];by_cases hm:x∈(t++l.nots).take i <;> simp [hm]
  unfold AM;simp
 unfold m7;rw [h1,FA];unfold zR;by_cases a1:l.numbers.all eJ=true
 ·simp only [a1,if_true,Option.bind_some];rw [h2 _ (by simpa using h.numbers)];by_cases a2:l.names.all fV=true
  ·simp only [a2,if_true,Option.bind_some];have hfl:=jE 8 (fun x hx=>(h.name x hx).1);have hn1:=h.numbers;have hn2:=h.names;have hn3:=h.nots;have hb:((l.numbers.map (·.text)++l.names.flatten)++l.nots).length≤1073741824:=by simp only [List.length_append,List.length_map];omega
   rw [e26 s3,Option.bind_some,h3 _ hb,bU (by simp only [List.length_append,List.length_map] at hb ⊢;omega)];have hall:l.all=(l.numbers.map (·.text)++l.names.flatten)++l.nots:=rfl;rw [← hall];by_cases a3:jI l.nots 40=true
   ·simp only [a3,if_true,Option.bind_some,Bool.true_and];by_cases a4:l.numbers.length≤40
    ·rw [if_neg (by omega),Option.bind_some];by_cases a5:l.names.length≤40
     ·rw [if_neg (by rw [decide_eq_true_iff];omega)];simp only [a4,a5,decide_true,Bool.and_self,if_true];by_cases hd:l.all.Nodup <;> simp [hd]
     rw [if_pos (by rw [decide_eq_true_iff];omega)];simp [a5]
    rw [if_pos (by omega),Option.bind_some];simp [a4]
   simp [a3]
  simp [a2]
 simp [a1]
end T4
namespace T4
open Go Go.Proofs Pk
theorem tR:∀ (l:aF) (a:Nat),BA l (a:Int)=if l.all rH then (gW l a:Int) else -1
 | [],a=>rfl
 | c::l,a=>by
  have ih:=tR l (10*a+(c.toNat - 48));simp only [BA,List.all_cons];by_cases h:rH c=true
  ·have h':=h;simp only [rH,decide_eq_true_eq] at h';rw [if_neg (by omega),show (10*(a:Int)+((c.toNat:Int) - 48))=((10*a+(c.toNat - 48):Nat):Int) by omega,ih];simp only [h,Bool.true_and];rfl
  have h':=h;simp only [rH,decide_eq_true_eq] at h';rw [if_pos (by omega)];simp [h]
theorem xW {u:Nat} (h:u≤999999999):fW (Lib.decDigits u)=u:=by
 have hl:=yX (u:=u) (k:=9) (by omega) (by decide);have hne:=xE u;have hlen:¬(Lib.decDigits u).length < 1:=fun c=>hne (List.length_eq_zero_iff.1 (by omega));unfold fW;rw [if_neg]
 ·have:=tR (Lib.decDigits u) 0;rw [yV,if_pos rfl,yW] at this;exact this
 rintro (c | c | ⟨c,d⟩)
 ·exact hlen c
 ·omega
 rcases Nat.eq_zero_or_pos u with rfl | hu
 ·rw [Lib.decDigits] at d;simp at d
 exact CT hu c
theorem wB {s:aF} (h:0≤fW s):∃ u:Nat,fW s=u∧u≤999999999∧s=Lib.decDigits u:=by
 unfold fW at h ⊢
 split at h
 ·omega
 rename_i hc
 rw [if_neg hc];have hd:=tR s 0;rw [show ((0:Nat):Int)=0 from rfl] at hd;rw [hd] at h ⊢
 split at h
 ·rename_i ha
  rw [if_pos ha];refine ⟨_,rfl,?_,?_⟩
  ·have:=yZ s 0 ha;have h9:s.length≤9:=by omega
   have:=Nat.pow_le_pow_right (n:=10) (by decide) h9
   have:(10:Nat) ^ 9=1000000000:=rfl
   omega
  cases s with
  | nil=>simp at hc
  | cons c r =>
   by_cases h0:c=48
   ·subst h0;have hr:r=[]:=by
     cases r with
     | nil=>rfl
     | cons y r=>exact absurd (Or.inr (Or.inr ⟨rfl,by simp⟩)) hc
    subst hr;rw [show gW [48] 0=0 from rfl,Lib.decDigits];rfl
   exact (CU (c::r) (by simp) ha (by simpa using h0)).1.symm
 omega
def kO (t:List (aF×aW)) (s:aF):aW×Bool:=match dR t s with
 | some m=>(m,true)
 | none=>if 0≤fW s then (⟨1,fW s⟩,true) else (⟨0,0⟩,false)
theorem aAy (t:List (aF×aW)) {s:aF} (h:Sh s):EK t s=some (kO t s):=by
 unfold EK kO
 cases hk:dR t s with
 | some m=>simp
 | none =>
  simp only [Option.isSome_none,Bool.false_eq_true,if_false];unfold HH CD;rw [bU h,Option.bind_some];by_cases hd:0≤fW s
  ·obtain ⟨u,h1,h2,h3⟩:=wB hd;have ha:lI s=((u:Int),false):=by unfold lI;rw [h3,CV (by omega)]
   rw [if_pos hd,ha,h1];have hi:xF (u:Int)=some (Lib.itoa u):=by unfold xF yM;rw [bU (by omega)]
   have hI:Lib.itoa (u:Int)=s:=by rw [h3];unfold Lib.itoa;rw [if_neg (by omega)];rfl
   have hin:In (u:Int) 0 999999999=true:=by simp only [In,decide_eq_true_eq];omega
   simp only [TX,Option.bind_some,hi,hI,hin];simp
  rw [if_neg hd];rcases hA:lI s with ⟨v,b⟩
  cases b with
  | true=>simp
  | false =>
   simp only [TX,Option.bind_some,Bool.false_eq_true,if_false];by_cases hv:In v 0 999999999=true
   ·have hv':=hv;simp only [In,decide_eq_true_eq] at hv';have hi:xF v=some (Lib.itoa v):=by unfold xF yM;rw [bU (by omega)]
    rw [if_pos hv,hi]
    have:Lib.itoa v≠s:=by
     intro e;apply hd;rw [← e];unfold Lib.itoa;rw [if_neg (by omega),xW (by omega)];omega
    simp [this]
   rw [if_neg hv];simp
def oC (t:List (aF×aW)) (l:List aF):List aW:=(l.map (kO t)).filterMap (fun p=>if p.2 then some p.1 else none)
theorem oN (t:List (aF×aW)):∀ (l:List aF) (a:List aW),l.foldl (fun a x=>if (kO t x).2 then a++[(kO t x).1] else a) a=a++oC t l
 | [],a=>by simp [oC]
 | x::l,a=>by
  rw [List.foldl_cons,oN t l];by_cases h:(kO t x).2 <;> simp [oC,h]
theorem SJ (t:List (aF×aW)) {l:List aF} (h:Sh l) (h2:∀ s∈l,Sh s):AR t l=some (oC t l):=by
 unfold AR;have hl:aQ (qJ l t) (0,([]:List aW))=some (l.foldl (fun a x=>if (kO t x).2 then a++[(kO t x).1] else a) []):=by
  refine iB l _ (fun a=>a) (fun i a=>a.length≤i) (fun i x a hi hx ha=>?_) (fun i x a hi hx ha=>?_) (fun a ha=>?_) (by simp)
  ·unfold qJ;rw [if_pos (by simpa using hi),hx,Option.bind_some,aAy t (h2 x (List.mem_of_getElem? hx)),Option.bind_some];by_cases k:(kO t x).2=true
   ·rw [if_pos k,bU (by show _≤_;dsimp only;omega),Option.bind_some,if_pos k]
   rw [if_neg k,Option.bind_some,if_neg k]
  ·by_cases k:(kO t x).2=true
   ·rw [if_pos k];simp;omega
   rw [if_neg k];omega
  unfold qJ;simp
 rw [hl,Option.bind_some,oN];simp
theorem xX {l:aM} {s:aF} {m:aW} (h:dR (fI l) s=some m):m.kind≠0:=by
 have key:∀ (t:List (aF×aW)),(∀ p∈t,p.2.kind≠0)→dR t s=some m→m.kind≠0:=by
  intro t
  induction t with
  | nil=>intro _ h;cases h
  | cons p t ih =>
   intro hp h;simp only [dR] at h
   split at h
   ·cases h;exact hp p List.mem_cons_self
   exact ih (fun q hq=>hp q (List.mem_cons_of_mem _ hq)) h
 refine key _ ?_ h;have hn:∀ (ls:List (List aF)) (i:Int),∀ p∈eK ls i,p.2.kind≠0:=by
  intro ls
  induction ls with
  | nil=>intro i p hp;cases hp
  | cons x ls ih =>
   intro i p hp;simp only [eK,List.mem_append,List.mem_map] at hp;rcases hp with ⟨_,_,rfl⟩ | hp
   ·show (2:Int)≠0;decide
   exact ih _ p hp
 intro p hp;simp only [fI,List.mem_append,List.mem_map] at hp;rcases hp with ⟨_,_,rfl⟩ | hp | ⟨_,_,rfl⟩
 ·show (1:Int)≠0;decide
 ·exact hn _ _ p hp
 show (3:Int)≠0;decide
theorem sJ (l:aM) (t:List aF):oC (fI l) t=eE l t:=by
 unfold oC eE
 induction t with
 | nil=>rfl
 | cons s t ih =>
  simp only [List.map_cons,List.filterMap_cons,List.filter_cons,ih];unfold kO kM
  cases hk:dR (fI l) s with
  | some m=>simp [xX hk]
  | none =>
   simp only [Option.getD_none,iP];by_cases hd:0≤fW s <;> simp [hd]
end T4
namespace T4
open Go Go.Proofs Pk
theorem e5 (l:aM) (sw:List bW):m5 l sw=some (BB l sw):=by
 have h1:aQ (CZ l) 0=some (if (l.numbers.take 46).all (fun n=>decide (n.text.length≤40)) then .inl () else .inr false):=by
  refine kY l.numbers 46 _ _ _ (fun i x hi hk hx=>?_) (fun i hn=>?_)
  ·unfold CZ;rw [if_pos (by omega),Option.bind_some,if_pos (by rw [decide_eq_true_iff];omega),hx,Option.bind_some];by_cases a:x.text.length≤40
   ·rw [if_neg (by omega),bU (by omega)];simp [a]
   rw [if_pos (by omega)];simp [a]
  unfold CZ;by_cases a:i < l.numbers.length
  ·rw [if_pos (by omega),Option.bind_some,if_neg (by rw [decide_eq_true_iff];omega)]
  rw [if_neg (by omega)];rfl
 have h2:aQ (DA l) 0=some (if (l.names.take 46).all (fun x=>iI x 8) then .inl () else .inr false):=by
  refine kY l.names 46 _ _ _ (fun i x hi hk hx=>?_) (fun i hn=>?_)
  ·unfold DA;rw [if_pos (by omega),Option.bind_some,if_pos (by rw [decide_eq_true_iff];omega),hx,Option.bind_some,e23,Option.bind_some,bU (by omega)];cases iI x 8 <;> simp
  unfold DA;by_cases a:i < l.names.length
  ·rw [if_pos (by omega),Option.bind_some,if_neg (by rw [decide_eq_true_iff];omega)]
  rw [if_neg (by omega)];rfl
 unfold m5 BB;rw [h1];by_cases a1:(l.numbers.take 46).all (fun n=>decide (n.text.length≤40))=true
 ·simp only [a1,if_true,Option.bind_some,h2];by_cases a2:(l.names.take 46).all (fun x=>iI x 8)=true
  ·simp only [a2,if_true,Option.bind_some,e23];by_cases a3:(l.numbers.length:Int)≤45
   ·by_cases a4:(l.names.length:Int)≤45
    ·cases iI l.nots 45 <;> simp [a3,a4]
    simp [a3,a4]
   simp [a3]
  simp [a2]
 simp [a1]
theorem oD (l:List aF) (n:Int):iI l n=true↔(∀ s∈l,s.length≤40)∧(l.length:Int)≤n:=by
 simp [iI]
theorem IM {l:aM} {sw:List bW} (h:BB l sw=true):qO l∧sw.length≤25:=by
 unfold BB at h;simp only [Bool.and_eq_true,decide_eq_true_eq] at h;obtain ⟨⟨h1,h2⟩,⟨⟨h3,h4⟩,h5⟩,h6⟩:=h;rw [oD] at h5;rw [List.take_of_length_le (by omega)] at h1 h2;simp only [List.all_eq_true,decide_eq_true_eq,oD] at h1 h2;exact ⟨⟨by omega,by omega,by omega,h1,fun x hx=>⟨by have:=(h2 x hx).2;omega,(h2 x hx).1⟩,h5.1⟩,by omega⟩
theorem e13 {l:aM} (h:qO l):QE l=some l:=by
 have h1:aQ (sA l) (0,([]:List cA))=some l.numbers:=by
  have:=jH l.numbers (fun n=>n) (fun a=>a) (step:=sA l) (fun i x a hi hx ha=>?_) (fun a=>?_)
  ·rw [this];simp
  ·have:=h.numbers;unfold sA;rw [if_pos (by simpa using hi)];simp only [hx,Option.bind_some];rw [bU (by simp;omega)]
  unfold sA;simp
 have h2:aQ (sB l) (0,([]:List (List aF)))=some l.names:=by
  have:=jH l.names (fun n=>n) (fun a=>a) (step:=sB l) (fun i x a hi hx ha=>?_) (fun a=>?_)
  ·rw [this];simp
  ·have:=h.names;have hx8:=(h.name x (List.mem_of_getElem? hx)).1;unfold sB;rw [if_pos (by simpa using hi)];simp only [hx,Option.bind_some];rw [e37 (by show _≤_;omega),Option.bind_some,bU (by simp;omega)]
  unfold sB;simp
 unfold QE;have:=h.nots;rw [e37 (by show _≤_;omega),Option.bind_some,h1,Option.bind_some,h2,Option.bind_some]
def dN:List (aF×aW)→List (aF×aW)→Option (List (aF×aW))
 | [],m=>some m
 | (k,v)::l,m=>if (dR m k).isSome then none else dN l (put m k v)
theorem gH:∀ (a b m:List (aF×aW)),dN (a++b) m=(dN a m).bind (dN b)
 | [],b,m=>rfl
 | (k,v)::a,b,m=>by
  simp only [List.cons_append,dN];by_cases h:(dR m k).isSome=true
  ·simp [h]
  simp only [h];exact gH a b _
theorem wC (m:List (aF×aW)) (k:aF):dR m k=none↔k∉m.map (·.1):=by
 induction m with
 | nil=>simp [dR]
 | cons p m ih =>
  simp only [dR,List.map_cons,List.mem_cons,not_or];by_cases h:k=p.1 <;> simp [h,ih]
theorem zS:∀ (m:List (aF×aW)) (k:aF) (v:aW),dR m k=none→put m k v=m++[(k,v)]
 | [],k,v,_=>rfl
 | (k',v')::m,k,v,h=>by
  simp only [dR] at h
  split at h
  ·cases h
  rename_i hk
  simp only [put,if_neg hk,List.cons_append];rw [zS m k v h]
theorem sK:∀ (l m:List (aF×aW)),(m.map (·.1)).Nodup→dN l m=if ((m++l).map (·.1)).Nodup then some (m++l) else none
 | [],m,h=>by simp only [dN];rw [if_pos (by simpa using h)];simp
 | (k,v)::l,m,h=>by
  simp only [dN]
  cases hk:dR m k with
  | some x =>
   have hm:k∈m.map (·.1):=by
    rw [← Decidable.not_not (p:=k∈m.map (·.1)),← wC,hk];simp
   rw [if_pos (by simp),if_neg];intro hn;rw [List.map_append,List.nodup_append] at hn;exact hn.2.2 k hm k (by simp) rfl
  | none =>
   rw [if_neg (by simp),zS m k v hk,sK l _ ?_]
   ·simp
   rw [List.map_append,List.nodup_append];refine ⟨h,by simp,fun a ha b hb=>?_⟩;simp at hb;subst hb;rintro rfl;exact (wC m a).1 hk ha
theorem pN {α ε:Type} (key:α→aF) (val:α→aW) (E:List (aF×aW)→ε) (out:List (aF×aW)→ε):∀ (l:List α) (i:Nat) (a:List (aF×aW)),
  (∃ b,dN (l.map fun p=>(key p,val p)) a=some b∧wN (fun _ x a=>if (dR a (key x)).isSome then .inr (E a) else .inl (put a (key x) (val x))) out l i a=out b) ∨
  (dN (l.map fun p=>(key p,val p)) a=none∧∃ b,wN (fun _ x a=>if (dR a (key x)).isSome then .inr (E a) else .inl (put a (key x) (val x))) out l i a=E b)
 | [],i,a=>.inl ⟨a,rfl,rfl⟩
 | x::l,i,a=>by
  have ih:=pN key val E out l (i+1) (put a (key x) (val x));simp only [List.map_cons,dN,wN];by_cases h:(dR a (key x)).isSome=true
  ·simp only [h,if_true];exact .inr ⟨trivial,a,rfl⟩
  simp only [h];exact ih
end T4
namespace T4
open Go Go.Proofs Pk
abbrev LL:=List (aF×aW)
theorem SK (l:aM):(∃ b,dN (l.numbers.map fun n=>(n.text,(⟨1,n.value⟩:aW))) []=some b∧aQ (qG l) (0,[])=some (.inl b))∨(dN (l.numbers.map fun n=>(n.text,(⟨1,n.value⟩:aW))) []=none∧∃ b,aQ (qG l) (0,[])=some (.inr (.inl (6,b)))):=by
 have h:=lZ l.numbers (fun _ x a=>if (dR a x.text).isSome then .inr (.inr (.inl (6,a))) else .inl (put a x.text (⟨1,x.value⟩:aW))) (fun a=>(.inl a:LL⊕((Nat×LL)⊕LL))) (fun _ _=>True) (step:=qG l) (fun i x a hi hx _=>?_) (fun _ _ _ _ _ _ _ _=>trivial) (fun a _=>?_) (a0:=[]) trivial
 ·rcases pN (fun n:cA=>n.text) (fun n=>(⟨1,n.value⟩:aW)) (fun a=>(.inr (.inl (6,a)):LL⊕((Nat×LL)⊕LL))) (fun a=>.inl a) l.numbers 0 [] with ⟨b,h1,h2⟩ | ⟨h1,b,h2⟩
  ·exact .inl ⟨b,h1,by rw [h,h2]⟩
  exact .inr ⟨h1,b,by rw [h,h2]⟩
 ·unfold qG;rw [if_pos (by simpa using hi)];simp only [hx,Option.bind_some];by_cases k:(dR a x.text).isSome=true <;> simp [k]
 unfold qG;simp
theorem SL (l:aM) (a0:LL):(∃ b,dN (l.nots.map fun n=>(n,(⟨3,0⟩:aW))) a0=some b∧aQ (qI l) (0,a0)=some (.inl b))∨(dN (l.nots.map fun n=>(n,(⟨3,0⟩:aW))) a0=none∧∃ b,aQ (qI l) (0,a0)=some (.inr (.inl (6,b)))):=by
 have h:=lZ l.nots (fun _ x a=>if (dR a x).isSome then .inr (.inr (.inl (6,a))) else .inl (put a x (⟨3,0⟩:aW))) (fun a=>(.inl a:LL⊕((Nat×LL)⊕LL))) (fun _ _=>True) (step:=qI l) (fun i x a hi hx _=>?_) (fun _ _ _ _ _ _ _ _=>trivial) (fun a _=>?_) (a0:=a0) trivial
 ·rcases pN (fun n:aF=>n) (fun n=>(⟨3,0⟩:aW)) (fun a=>(.inr (.inl (6,a)):LL⊕((Nat×LL)⊕LL))) (fun a=>.inl a) l.nots 0 a0 with ⟨b,h1,h2⟩ | ⟨h1,b,h2⟩
  ·exact .inl ⟨b,h1,by rw [h,h2]⟩
  exact .inr ⟨h1,b,by rw [h,h2]⟩
 ·unfold qI;rw [if_pos (by simpa using hi)];simp only [hx,Option.bind_some];by_cases k:(dR a x).isSome=true <;> simp [k]
 unfold qI;simp
theorem SM (x:List aF) (s:Nat×LL) (a0:LL):(∃ b,dN (x.map fun n=>(n,(⟨2,(s.1:Int)⟩:aW))) a0=some b∧aQ (qH x s) (0,a0)=some (.inl b))∨(dN (x.map fun n=>(n,(⟨2,(s.1:Int)⟩:aW))) a0=none∧∃ b,aQ (qH x s) (0,a0)=some (.inr (.inr (.inr (.inl (6,b)))))):=by
 have h:=lZ x (fun _ x a=>if (dR a x).isSome then .inr (.inr (.inr (.inr (.inl (6,a))))) else .inl (put a x (⟨2,(s.1:Int)⟩:aW))) (fun a=>.inl a) (fun _ _=>True) (step:=qH x s) (fun i x a hi hx _=>?_) (fun _ _ _ _ _ _ _ _=>trivial) (fun a _=>?_) (a0:=a0) trivial
 ·rcases pN (fun n:aF=>n) (fun n=>(⟨2,(s.1:Int)⟩:aW)) (fun a=>(.inr (.inr (.inr (.inl (6,a)))):LL⊕((Nat×LL)⊕(LL⊕((Nat×LL)⊕LL))))) (fun a=>.inl a) x 0 a0 with ⟨b,h1,h2⟩ | ⟨h1,b,h2⟩
  ·exact .inl ⟨b,h1,by rw [h,h2]⟩
  exact .inr ⟨h1,b,by rw [h,h2]⟩
 ·unfold qH;rw [if_pos (by simpa using hi)];simp only [hx,Option.bind_some];by_cases k:(dR a x).isSome=true <;> simp [k]
 unfold qH;simp
theorem SN (l:aM) (a0:LL):(∃ b,dN (eK l.names 0) a0=some b∧aQ (lL l) (0,a0)=some (.inl b))∨(dN (eK l.names 0) a0=none∧∃ b,aQ (lL l) (0,a0)=some (.inr (.inl (6,b)))):=by
 have key:∀ (k i:Nat) (a:LL),l.names.length - i=k→i≤l.names.length→(∃ b,dN (eK (l.names.drop i) i) a=some b∧aQ (lL l) (i,a)=some (.inl b))∨(dN (eK (l.names.drop i) i) a=none∧∃ b,aQ (lL l) (i,a)=some (.inr (.inl (6,b)))):=by
  intro k
  induction k with
  | zero =>
   intro i a hk hi;obtain rfl:i=l.names.length:=by omega
   refine .inl ⟨a,by simp [eK,dN],cN ?_⟩;unfold lL;simp
  | succ k ih =>
   intro i a hk hi;have hlt:i < l.names.length:=by omega
   have hx:l.names[i]?=some l.names[i]:=List.getElem?_eq_getElem hlt;rw [List.drop_eq_getElem_cons hlt];simp only [eK,gH];rcases SM l.names[i] (i,a) a with ⟨b,h1,h2⟩ | ⟨h1,b,h2⟩
   ·simp only at h1;rw [h1,Option.bind_some];have hs:lL l (i,a)=some (.inl (i+1,b)):=by
     unfold lL;rw [if_pos (by simpa using hlt)];simp only [hx,Option.bind_some,h2]
    rw [eH hs];exact ih (i+1) b (by omega) (by omega)
   simp only at h1;refine .inr ⟨by rw [h1];rfl,b,cN ?_⟩;unfold lL;rw [if_pos (by simpa using hlt)];simp only [hx,Option.bind_some,h2]
 have:=key l.names.length 0 a0 (by omega) (by omega);simpa using this
theorem qQ:∀ (ls:List (List aF)) (i:Int),(eK ls i).map (·.1)=ls.flatten
 | [],_=>rfl
 | l::ls,i=>by simp [eK,qQ ls,Function.comp_def]
theorem xY (l:aM):(fI l).map (·.1)=l.all:=by
 simp [fI,aM.all,qQ,Function.comp_def]
theorem e74 {l:aM} (h:qO l):QH l=some (if dD l=0 then (fI l,0) else ([],dD l)):=by
 obtain ⟨s1,s2,s3⟩:=zQ h;have hins:dN (fI l) []=if l.all.Nodup then some (fI l) else none:=by
  rw [sK _ _ (by simp),← xY];simp
 unfold QH;rw [FA];unfold zR jI;rw [q85,gC eJ (fun n hn=>aAv (s1 n hn)),q74,gC fV (fun x hx=>aAw (s2 x hx)),MT s3];have t40:decide ((l.nots.length:Int)≤40)=decide (l.nots.length≤40):=by rw [decide_eq_decide];omega
 have c1:((l.numbers.length:Int)≤40)=(l.numbers.length≤40):=propext (by omega);have c2:((l.names.length:Int)≤40)=(l.names.length≤40):=propext (by omega);rw [t40];simp only [c1,c2];by_cases hok:l.numbers.all eJ=true∧l.names.all fV=true∧l.nots.all gA=true∧l.numbers.length≤40∧l.names.length≤40∧l.nots.length≤40
 ·obtain ⟨a1,a2,a3,b1,b2,b3⟩:=hok;simp only [a1,a2,a3,b1,b2,b3,if_true,decide_true,Option.bind_some,Bool.not_true,Bool.false_eq_true,if_false,Bool.and_self];unfold fI at hins;rw [gH] at hins;rcases SK l with ⟨b,h1,h2⟩ | ⟨h1,b,h2⟩
  ·rw [h1,Option.bind_some,gH] at hins;rw [h2];simp only [Option.bind_some];rcases SN l b with ⟨b2,h3,h4⟩ | ⟨h3,b2,h4⟩
   ·rw [h3,Option.bind_some] at hins;simp only [h4,Option.bind_some];rcases SL l b2 with ⟨b3,h5,h6⟩ | ⟨h5,b3,h6⟩
    ·rw [h5] at hins;simp only [h6,Option.bind_some];by_cases hn:l.all.Nodup
     ·rw [if_pos hn] at hins;cases hins;simp [hn];rfl
     rw [if_neg hn] at hins;cases hins
    rw [h5] at hins;simp only [h6,Option.bind_some];by_cases hn:l.all.Nodup
    ·rw [if_pos hn] at hins;cases hins
    simp [hn]
   rw [h3] at hins;simp only [h4,Option.bind_some];by_cases hn:l.all.Nodup
   ·rw [if_pos hn] at hins;cases hins
   simp [hn]
  rw [h1] at hins;rw [h2];simp only [Option.bind_some];by_cases hn:l.all.Nodup
  ·rw [if_pos hn] at hins;cases hins
  simp [hn]
 cases a1:l.numbers.all eJ <;> cases a2:l.names.all fV <;> cases a3:l.nots.all gA <;> by_cases b1:l.numbers.length≤40 <;> by_cases b2:l.names.length≤40 <;> by_cases b3:l.nots.length≤40 <;> simp [b1,b2,b3];exact absurd ⟨a1,a2,a3,b1,b2,b3⟩ hok
theorem e48 {l:aM} (h:qO l) (sw:List bW):QJ l sw=some (if qP l sw=0 then ((⟨fI l,sw⟩:rules),0) else ((⟨[],[]⟩:rules),qP l sw)):=by
 unfold QJ qP mD;rw [e74 h,Option.bind_some,e77];by_cases a:dD l=0
 ·simp only [a,if_true];rw [if_neg (by simp)];by_cases b:20 < sw.length
  ·rw [if_pos (by omega)];simp [b]
  rw [if_neg (by omega),Option.bind_some];simp only [b,if_false];by_cases c:sw.all oB=true <;> simp [c]
 simp only [a,if_false];rw [if_pos a]
end T4
namespace T4
open Go Go.Proofs Pk
theorem BC (l:aM) (t:List aF):(eE l t).length≤t.length:=by
 unfold eE;exact Nat.le_trans (List.length_filter_le _ _) (by simp)
end T4
namespace T4
open Go Go.Proofs Pk
theorem MU {r:aY} (h:∀ x∈r.words,x.text.length≤40):∀ x∈r.words,Sh x.text:=fun x hx=>Nat.le_trans (h x hx) (by decide)
theorem e78 {w:dJ} (h:Sh w.text):LX w=some (iZ w):=by
 unfold LX iZ;rw [e79 h,Option.bind_some,MS];cases gA w.text <;> simp
theorem q92 (l:List dJ) (f:dJ→Option Bool):QK l f=vF l f:=rfl
theorem aAz (l:List dJ) (f:dJ→Option Bool):EJ l f=CP l f:=rfl
theorem aA0 (l:List aE) (f:aE→Option Bool):HX l f=CP l f:=rfl
theorem e49 {r:aY} (h:∀ x∈r.words,Sh x.text):QL r=some (if dL r then 0 else 1):=by
 unfold QL dL;rw [q92,gC iZ (fun w hw=>e78 (h w hw)),MS,MS];by_cases a:80 < r.words.length
 ·rw [if_pos (by omega),Option.bind_some,if_pos rfl]
  have:decide ((r.words.length:Int)≤80)=false:=by rw [decide_eq_false_iff_not];omega
  simp [this]
 rw [if_neg (by omega)]
 have:decide ((r.words.length:Int)≤80)=true:=by rw [decide_eq_true_iff];omega
 rw [this];cases r.words.all iZ <;> cases In r.out 0 100000 <;> cases In r.within 0 100000 <;> simp
theorem e8 {r:aY} (h:∀ x∈r.words,Sh x.text):m8 r=some (dL r):=by
 have h1:aQ (DE r) 0=some (if r.words.all iZ then .inl () else .inr false):=by
  refine iH r.words iZ _ _ (fun i x hi hx=>?_) ?_
  ·unfold DE iZ;rw [if_pos (by omega),hx,Option.bind_some,e24 (h x (List.mem_of_getElem? hx)),Option.bind_some,TW];cases gA x.text <;> cases In x.speaker 0 999 <;> simp
  unfold DE;simp
 unfold m8 dL;rw [h1,TW,TW];by_cases a:r.words.all iZ=true
 ·simp only [a,if_true,Option.bind_some];by_cases b:(r.words.length:Int)≤80
  ·simp only [b,if_true,decide_true,Option.bind_some];cases In r.out 0 100000 <;> cases In r.within 0 100000 <;> simp
  simp [b]
 simp [a]
theorem e14 {r:aY} (h:r.words.length≤1000000):QF r=some r:=by
 have h1:aQ (sC r) (0,([]:List dJ))=some r.words:=by
  have:=jH r.words (fun n=>n) (fun a=>a) (step:=sC r) (fun i x a hi hx ha=>?_) (fun a=>?_)
  ·rw [this];simp
  ·unfold sC;rw [if_pos (by simpa using hi)];simp only [hx,Option.bind_some];rw [bU (by simp;omega)]
  unfold sC;simp
 unfold QF;rw [h1];rfl
theorem e15 {q:List aE} (h:q.length≤1000000) (h2:∀ x∈q,Sh x.cV):m15 q=some q:=by
 have h1:aQ (sD q) (0,([]:List aE))=some q:=by
  have:=jH q (fun n=>n) (fun a=>a) (step:=sD q) (fun i x a hi hx ha=>?_) (fun a=>?_)
  ·rw [this];simp
  ·unfold sD;rw [if_pos (by simpa using hi)];simp only [hx,Option.bind_some];rw [e37 (h2 x (List.mem_of_getElem? hx)),Option.bind_some,bU (by simp;omega)]
  unfold sD;simp
 unfold m15;rw [h1];rfl
theorem e6 (r:aY) (q:List aE):m6 r q=some (OC r q):=by
 have h1:aQ (DB r) 0=some (if (r.words.take 86).all (fun w=>decide (w.text.length≤40)) then .inl () else .inr false):=by
  refine kY r.words 86 _ _ _ (fun i x hi hk hx=>?_) (fun i hn=>?_)
  ·unfold DB;rw [if_pos (by omega),Option.bind_some,if_pos (by rw [decide_eq_true_iff];omega),hx,Option.bind_some];by_cases a:x.text.length≤40
   ·rw [if_neg (by omega),bU (by omega)];simp [a]
   rw [if_pos (by omega)];simp [a]
  unfold DB;by_cases a:i < r.words.length
  ·rw [if_pos (by omega),Option.bind_some,if_neg (by rw [decide_eq_true_iff];omega)]
  rw [if_neg (by omega)];rfl
 have h2:aQ (DD q) 0=some (if (q.take 26).all (fun x=>iI x.cV 12) then .inl () else .inr false):=by
  refine kY q 26 _ _ _ (fun i x hi hk hx=>?_) (fun i hn=>?_)
  ·unfold DD;rw [if_pos (by omega),Option.bind_some,if_pos (by rw [decide_eq_true_iff];omega),hx,Option.bind_some,e23,Option.bind_some,bU (by omega)];cases iI x.cV 12 <;> simp
  unfold DD;by_cases a:i < q.length
  ·rw [if_pos (by omega),Option.bind_some,if_neg (by rw [decide_eq_true_iff];omega)]
  rw [if_neg (by omega)];rfl
 unfold m6 OC;rw [h1];by_cases a1:(r.words.take 86).all (fun w=>decide (w.text.length≤40))=true
 ·simp only [a1,if_true,Option.bind_some,h2];by_cases a2:(q.take 26).all (fun x=>iI x.cV 12)=true
  ·simp only [a2,if_true,Option.bind_some];by_cases a3:(r.words.length:Int)≤85 <;> simp [a3]
  simp [a2]
 simp [a1]
structure RQ (r:aY) (q:List aE):Prop where
 words1:r.words.length≤85
 words2:∀ x∈r.words,x.text.length≤40
 req1:q.length≤25
 req2:∀ x∈q,x.cV.length≤12∧∀ s∈x.cV,s.length≤40
theorem MV {r:aY} {q:List aE} (h:OC r q=true):RQ r q:=by
 unfold OC at h;simp only [Bool.and_eq_true,decide_eq_true_eq] at h;obtain ⟨⟨h1,h2⟩,h3,h4⟩:=h;rw [List.take_of_length_le (by omega)] at h1 h2;simp only [List.all_eq_true,decide_eq_true_eq,oD] at h1 h2;exact ⟨by omega,h1,by omega,fun x hx=>⟨by have:=(h2 x hx).2;omega,(h2 x hx).1⟩⟩
def ready (l:aM) (sw:List bW) (r:aY) (q:List aE):Bool:=BB l sw&&OC r q&&decide (sI l sw r q=0)
theorem zT (r:aY) (i j:Int):jZ r i j=((r.words.drop i.toNat).take (j.toNat - i.toNat)).map (·.text):=rfl
theorem nE (r:aY) (i j:Int):(jZ r i j).length≤r.words.length:=by rw [zT];simp;omega
theorem wD {r:aY} {i j:Int} {s:aF} (h:s∈jZ r i j):∃ x∈r.words,x.text=s:=by
 rw [zT,List.mem_map] at h;obtain ⟨x,hx,rfl⟩:=h;exact ⟨x,List.mem_of_mem_drop (List.mem_of_mem_take hx),rfl⟩
theorem e34 {r:aY} {i j:Int} (h0:0≤i) (h1:i≤j) (h2:j≤r.words.length) (h3:r.words.length≤1000000):HU r i j=some (jZ r i j):=by
 have hl:aQ (sF r i j) (0,([]:List aF))=some (jZ r i j):=by
  refine jH _ (fun w:dJ=>w.text) (fun a=>a) (step:=sF r i j) (fun k x a hi hx ha=>?_) (fun a=>?_)
  ·have:((r.words.drop i.toNat).take (j.toNat - i.toNat)).length≤r.words.length:=by simp;omega
   unfold sF;rw [if_pos (by simp at hi ⊢;omega)];simp only [hx,Option.bind_some];rw [bU (by simp;omega)]
  unfold sF;simp
 unfold HU;rw [bU h0,bU (by omega),bU (by omega),hl];rfl
abbrev dS (r:aY) (q:aE):Prop:=0≤q.aI∧0≤q.cut∧q.aI≤(r.words.length:Int) - q.cut
theorem e35 {r:aY} {q:aE} (h:dS r q) (h2:r.words.length≤1000000):BH q=some (q.aI+q.cut):=by
 obtain ⟨a,b,c⟩:=h;unfold BH;rw [bU (by omega)]
theorem e84 (d:cJ) (q:aE) (h:d.report.words.length≤1000000) (h0:q.cut≤9223372036854775807):QO d q=some (decide (0≤q.aI∧0≤q.cut∧q.aI≤(d.report.words.length:Int) - q.cut)):=by
 unfold QO;by_cases a:0≤q.aI
 ·by_cases b:0≤q.cut
  ·simp only [a,b,if_true];rw [bU (by omega)];simp
  simp [a,b]
 simp [a]
def gI (q:aE):Bool:=decide (q.cut≤8)&&decide ((q.cV.length:Int)≤8)&&q.cV.all gA&&decide (0 < q.cut+(q.cV.length:Int))&&In q.by_ 0 999
theorem e85 (d:cJ) {q:aE} (h:0≤q.cut) (h2:∀ s∈q.cV,Sh s):QP d q=some (gI q):=by
 unfold QP gI;rw [MT h2,MS];by_cases a:q.cut≤8
 ·by_cases b:(q.cV.length:Int)≤8
  ·simp only [a,b,if_true,Option.bind_some,decide_true,Bool.true_and];cases q.cV.all gA
   ·simp
   simp only [if_true,Bool.true_and];rw [bU (by omega)];by_cases c:0 < q.cut+(q.cV.length:Int) <;> simp [c]
  simp [a,b]
 simp [a]
end T4
namespace T4
open Go Go.Proofs Pk
theorem nF (sw:List bW):∀ (a b:List aW),CR (fD sw) a b=dZ sw a b
 | [],[]=>rfl
 | x::a,y::b=>by simp only [CR,dZ,nF sw a b]
 | [],_::_=>rfl
 | _::_,[]=>rfl
theorem aA2 (a b:List aW) (f:aW→aW→Option Bool):HW a b f=LC a b f:=rfl
theorem aA3 (r:rules) (a b:List aW):EO r a b=some (dZ r.bK a b):=by
 unfold EO;rw [aA2,AH (fD r.bK) (fun x _ y _=>SI r x y),nF];rfl
theorem wE (r:aY) (i m:Int):rJ r i m=(decide (0≤i)&&((r.words[i.toNat]?).map (fun w=>decide (w.speaker=m))).getD false):=by
 unfold rJ;cases r.words[i.toNat]? <;> rfl
theorem qR (r:aY) (m:Int):∀ (n:Nat) (i:Int),0≤i→i.toNat+n≤r.words.length→iQ r m n i=((r.words.drop i.toNat).take n).all (fun w=>decide (w.speaker=m))
 | 0,i,_,_=>by simp [iQ]
 | n+1,i,h0,h1=>by
  have hlt:i.toNat < r.words.length:=by omega
  simp only [iQ];rw [qR r m n (i+1) (by omega) (by omega),List.drop_eq_getElem_cons hlt,List.take_succ_cons,List.all_cons,show (i+1).toNat=i.toNat+1 by omega];congr 1;unfold rJ;rw [List.getElem?_eq_getElem hlt];simp [h0]
def wF (r:aY) (q:aE):Bool:=if q.cut=0 then rJ r (q.aI - 1) q.by_||rJ r q.aI q.by_ else iQ r q.by_ q.cut.toNat q.aI
theorem SO (w:dJ) (q:aE):tM w q=some (decide (w.speaker=q.by_)):=rfl
theorem e86 {d:cJ} {q:aE} (h:dS d.report q) (h2:d.report.words.length≤1000000):QQ d q=some (wF d.report q):=by
 obtain ⟨a,b,c⟩:=id h;unfold QQ wF;by_cases k:0 < q.cut
 ·rw [if_pos k,e35 h h2,Option.bind_some,bU a,bU (by omega),bU (by omega),q92,gC (fun w=>decide (w.speaker=q.by_)) (fun w _=>SO w q),Option.bind_some,if_neg (by omega),qR _ _ _ _ a (by omega)];rw [show (q.aI+q.cut).toNat - q.aI.toNat=q.cut.toNat by omega]
 have k0:q.cut=0:=by omega
 rw [if_neg k,if_pos k0];rw [bU (by omega),bU (by omega),bU (by omega),bU (by omega),aAz,nZ (fun w=>decide (w.speaker=q.by_)) (fun w _=>SO w q),Option.bind_some];congr 1;rw [wE,wE];by_cases hf:0 < q.aI
 ·have h1:(max 0 (q.aI - 1)).toNat=q.aI.toNat - 1:=by omega
  have hlt:q.aI.toNat - 1 < d.report.words.length:=by omega
  have d1:decide (0≤q.aI - 1)=true:=by rw [decide_eq_true_iff];omega
  have d2:decide (0≤q.aI)=true:=by rw [decide_eq_true_iff];omega
  rw [h1,d1,d2,Bool.true_and,Bool.true_and,show (q.aI - 1).toNat=q.aI.toNat - 1 by omega,List.getElem?_eq_getElem hlt,List.drop_eq_getElem_cons hlt];by_cases e:q.aI.toNat < d.report.words.length
  ·rw [show (min (d.report.words.length:Int) (q.aI+1)).toNat - (q.aI.toNat - 1)=2 by omega,show q.aI.toNat - 1+1=q.aI.toNat by omega,List.drop_eq_getElem_cons e,List.getElem?_eq_getElem e];simp only [List.take_succ_cons,List.take_zero,List.any_cons,List.any_nil,Bool.or_false,Option.map_some,Option.getD_some]
  rw [show (min (d.report.words.length:Int) (q.aI+1)).toNat - (q.aI.toNat - 1)=1 by omega,List.getElem?_eq_none (by omega)];simp only [List.take_succ_cons,List.take_zero,List.any_cons,List.any_nil,Bool.or_false,Option.map_some,Option.map_none,Option.getD_some,Option.getD_none]
 have hz:q.aI=0:=by omega
 rw [hz];have h1:(max (0:Int) (0 - 1)).toNat=0:=by decide
 rw [h1];by_cases e:0 < d.report.words.length
 ·rw [show (min (d.report.words.length:Int) (0+1)).toNat - 0=1 by omega,show (0:Int).toNat=0 from rfl,List.getElem?_eq_getElem e];rw [List.drop_eq_getElem_cons e];simp
 have:d.report.words=[]:=List.length_eq_zero_iff.1 (by omega)
 simp [this]
end T4
namespace T4
open Go Go.Proofs Pk
abbrev lP (q:aE):Prop:=-9223372036854775808≤q.aI+q.cut∧q.aI+q.cut≤9223372036854775807
theorem qS {r:aY} {q:aE} (h:dS r q) (h2:r.words.length≤1000000):lP q:=by
 obtain ⟨a,b,c⟩:=h;unfold lP;omega
theorem MW {q:aE} (h:lP q):BH q=some (q.aI+q.cut):=by unfold BH;rw [bU h]
theorem MX:∀ (n:Nat) {a b:aE},lP a→lP b→(hD n a b=none∨hD n a b=some (gL a b))∧(2≤n→hD n a b=some (gL a b))∧((a.cut=0∨b.cut≠0)→1≤n→hD n a b=some (gL a b))
 | 0,a,b,_,_=>⟨.inl rfl,by omega,by omega⟩
 | n+1,a,b,ha,hb=>by
  by_cases k1:a.cut=0
  ·have:hD (n+1) a b=some (gL a b):=by
    unfold hD gL;by_cases k2:b.cut=0
    ·simp [k1,k2]
    simp only [k1,k2,if_true,if_false,and_false,Option.bind_some,decide_false,Bool.false_eq_true,MW hb];by_cases k3:b.aI < a.aI <;> simp [k3]
   exact ⟨.inr this,fun _=>this,fun _ _=>this⟩
  by_cases k2:b.cut=0
  ·have ih:=MX n hb ha;have hm:gL b a=gL a b:=by
    unfold gL;simp [k1,k2]
   have hs:hD (n+1) a b=(hD n b a).bind fun r=>some r:=by
    rw [hD];simp [k1,k2]
   rw [hs,HE];rw [hm] at ih;refine ⟨ih.1,fun h=>ih.2.2 (.inl k2) (by omega),?_⟩;rintro (h | h)
   ·exact absurd h k1
   exact absurd k2 h
  have:hD (n+1) a b=some (gL a b):=by
   unfold hD gL;simp only [k1,k2,if_false,false_and,Option.bind_some,Bool.false_eq_true,MW ha,MW hb];by_cases k3:a.aI < b.aI+b.cut <;> simp [k3]
  exact ⟨.inr this,fun _=>this,fun _ _=>this⟩
theorem aA4 {a b:aE} (ha:lP a) (hb:lP b):AS a b=some (gL a b):=by
 unfold AS;refine GU 2 ((MX 2 ha hb).2.1 (by omega)) (fun m r' h=>?_);rcases (MX m ha hb).1 with h1 | h1
 ·rw [h1] at h;cases h
 rw [h1] at h;cases h;rfl
theorem e89 {d:cJ} {q:aE} (hq:lP q) (ha:∀ x∈d.fB,lP x):QT d q=some (!d.fB.any (gL q)):=by
 unfold QT;rw [aA0,nZ (gL q) (fun x hx=>aA4 hq (ha x hx))];rfl
theorem e87 {d:cJ} (q:aE) (h:0≤d.report.out∧d.report.out≤100000) (h2:0≤d.report.within∧d.report.within≤100000):QR d q=some (In q.minute d.report.out (d.report.out+d.report.within)):=by
 unfold QR;rw [bU (by omega),MS];rfl
def wG (l:aM) (sw:List bW) (r:aY) (q:aE):Bool:=dZ sw (eE l (jZ r q.aI (q.aI+q.cut))) (eE l q.cV)
theorem e88 {d:cJ} {l:aM} {q:aE} (hd:d.rules.fA=fI l) (h:dS d.report q) (h2:d.report.words.length≤1000000) (h3:∀ x∈d.report.words,Sh x.text) (h4:Sh q.cV) (h5:∀ s∈q.cV,Sh s):QS d q=some (wG l d.rules.bK d.report q):=by
 obtain ⟨a,b,c⟩:=id h;unfold QS wG;rw [e35 h h2,Option.bind_some,e34 a (by omega) (by omega) h2,Option.bind_some,hd,SJ,Option.bind_some,SJ _ h4 h5,Option.bind_some,aA3,sJ,sJ]
 ·rfl
 ·have:=nE d.report q.aI (q.aI+q.cut);show _≤_;omega
 intro s hs;obtain ⟨x,hx,rfl⟩:=wD hs;exact h3 x hx
end T4
namespace T4
open Go Go.Proofs Pk
def lF (l:aM) (sw:List bW) (r:aY) (acc:List aE) (q:aE):Int:=if kN l sw r q≠0 then kN l sw r q else if acc.any (gL q) then 6 else 0
theorem kP (l:aM) (sw:List bW) (r:aY) (q:aE):kN l sw r q =
  if ¬dS r q then 2 else if gI q=false then 1 else if wF r q=false then 5 else if In q.minute r.out (r.out+r.within)=false then 11 else if wG l sw r q then 0 else 9:=by
 unfold kN;by_cases hin:dS r q
 ·have hin':=hin;obtain ⟨a,b,c⟩:=hin';have nin:¬ ¬dS r q:=fun h=>h hin;rw [if_neg (show ¬(q.aI < 0∨q.cut < 0∨(r.words.length:Int) - q.cut < q.aI) by omega),if_neg nin];have hp:(8 < q.cut∨jI q.cV 8=false∨(q.cut=0∧(q.cV.length:Int)=0)∨¬(0≤q.by_∧q.by_≤999))↔gI q=false:=by
   unfold gI jI In;simp only [Bool.and_eq_false_iff,decide_eq_false_iff_not];constructor
   ·rintro (h | (h | h) | h | h)
    ·exact .inl (.inl (.inl (.inl (by omega))))
    ·exact .inl (.inl (.inr h))
    ·exact .inl (.inl (.inl (.inr (by omega))))
    ·exact .inl (.inr (by omega))
    exact .inr h
   rintro ((((h | h) | h) | h) | h)
   ·exact .inl (by omega)
   ·exact .inr (.inl (.inr (by omega)))
   ·exact .inr (.inl (.inl h))
   ·exact .inr (.inr (.inl (by omega)))
   exact .inr (.inr (.inr h))
  by_cases hpr:gI q=false
  ·rw [if_pos (hp.2 hpr),if_pos hpr]
  rw [if_neg (fun h=>hpr (hp.1 h)),if_neg hpr];by_cases hw:wF r q=false
  ·rw [if_pos hw];unfold wF at hw;by_cases k:q.cut=0
   ·rw [if_pos k,Bool.or_eq_false_iff] at hw;rw [if_pos ⟨k,hw⟩]
   rw [if_neg k] at hw;rw [if_neg (fun h=>k h.1),if_pos hw]
  rw [if_neg hw];unfold wF at hw;have h1:¬(q.cut=0∧rJ r (q.aI - 1) q.by_=false∧rJ r q.aI q.by_=false):=by
   rintro ⟨k,h2,h3⟩;rw [if_pos k,h2,h3] at hw;exact hw rfl
  have h2:¬iQ r q.by_ q.cut.toNat q.aI=false:=by
   by_cases k:q.cut=0
   ·rw [k];simp [iQ]
   rw [if_neg k] at hw;exact hw
  rw [if_neg h1,if_neg h2];by_cases ht:In q.minute r.out (r.out+r.within)=false
  ·rw [if_pos ht,if_pos];simp only [In,decide_eq_false_iff_not] at ht;omega
  rw [if_neg ht,if_neg]
  ·rfl
  rw [Bool.not_eq_false] at ht;simp only [In,decide_eq_true_eq] at ht;omega
 rw [if_pos hin,if_pos];unfold dS at hin;omega
theorem nG {l:aM} {sw:List bW} {r:aY} {q:aE} (h:kN l sw r q=0):dS r q:=by
 rw [kP] at h;by_cases hin:dS r q
 ·exact hin
 rw [if_pos hin] at h;cases h
structure SP (r:aY) (q:List aE):Prop where
 w1:r.words.length≤85
 w2:∀ x∈r.words,Sh x.text
 out:0≤r.out∧r.out≤100000
 within:0≤r.within∧r.within≤100000
 q1:q.length≤25
 q2:∀ x∈q,Sh x.cV∧(∀ s∈x.cV,Sh s)∧x.cut≤9223372036854775807
theorem e53 {l:aM} {sw:List bW} {d:cJ} {q:aE} (h1:d.report.words.length≤85) (h2:∀ x∈d.report.words,Sh x.text) (h3:0≤d.report.out∧d.report.out≤100000) (h4:0≤d.report.within∧d.report.within≤100000)
  (h5:Sh q.cV∧(∀ s∈q.cV,Sh s)∧q.cut≤9223372036854775807) (hd:d.rules=⟨fI l,sw⟩) (ha:∀ x∈d.fB,lP x):QU d q=some (lF l sw d.report d.fB q):=by
 unfold QU lF;rw [kP,e84 _ _ (by omega) h5.2.2,Option.bind_some];by_cases hin:dS d.report q
 ·have nin:¬ ¬dS d.report q:=fun h=>h hin;rw [if_neg nin];have hin':=hin;unfold dS at hin';rw [if_pos (by rw [decide_eq_true_iff];exact hin'),e85 _ hin'.2.1 h5.2.1,Option.bind_some];cases hp:gI q
  ·simp
  simp only [if_true,Bool.true_eq_false,if_false];rw [e86 hin (by omega),Option.bind_some];cases hw:wF d.report q
  ·simp
  simp only [if_true,Bool.true_eq_false,if_false];rw [e87 _ h3 h4,Option.bind_some];cases ht:In q.minute d.report.out (d.report.out+d.report.within)
  ·simp
  simp only [if_true,Bool.true_eq_false,if_false];rw [e88 (l:=l) (by rw [hd]) hin (by omega) h2 h5.1 h5.2.1,Option.bind_some,hd];cases hk:wG l sw d.report q
  ·simp
  simp only [if_true];rw [e89 (qS hin (by omega)) ha,Option.bind_some];cases d.fB.any (gL q) <;> simp
 rw [if_pos hin];unfold dS at hin;rw [if_neg (by rw [decide_eq_true_iff];exact hin)];simp
def jQ (q:List aE) (x:Int):List Int→List Int
 | []=>[x]
 | y::ys=>if eI q x y then x::y::ys else y::jQ q x ys
def cU (n:Nat):List Int:=(List.range n).map (fun (k:Nat)=>(k:Int))
def kQ (q:List aE):List Int:=(cU q.length).foldl (fun a x=>jQ q x a) []
def kR (q:List aE) (i:Int):Prop:=0≤i∧i.toNat < q.length
theorem iC {q:List aE} {i k:Int} (hi:kR q i) (hk:kR q k):eI q i k=nD (q[i.toNat]'hi.2) (q[k.toNat]'hk.2) i k:=by
 unfold eI;rw [List.getElem?_eq_getElem hi.2,List.getElem?_eq_getElem hk.2]
theorem fJ (x y:aE) (i k:Int):nD x y i k=true↔x.minute < y.minute∨(x.minute=y.minute∧(x.by_ < y.by_∨(x.by_=y.by_∧i < k))):=by
 unfold nD;by_cases a:x.minute=y.minute
 ·rw [if_pos a];by_cases b:x.by_=y.by_
  ·rw [if_pos b,decide_eq_true_iff];omega
  rw [if_neg b,decide_eq_true_iff];omega
 rw [if_neg a,decide_eq_true_iff];omega
theorem nH {q:List aE} {i j k:Int} (hi:kR q i) (hj:kR q j) (hk:kR q k) (h1:eI q i j=true) (h2:eI q j k=true):eI q i k=true:=by
 rw [iC hi hj,fJ] at h1;rw [iC hj hk,fJ] at h2;rw [iC hi hk,fJ];omega
theorem tS {q:List aE} {i j:Int} (hi:kR q i) (hj:kR q j) (h:i≠j):eI q i j=true∨eI q j i=true:=by
 rw [iC hi hj,fJ,iC hj hi,fJ];omega
theorem oE (q:List aE) (x:Int):∀ l:List Int,(jQ q x l).Perm (x::l)
 | []=>.refl _
 | y::l=>by
  simp only [jQ]
  split
  ·exact .refl _
  exact ((oE q x l).cons y).trans (.swap x y l)
theorem oO {q:List aE} {x:Int} (hx:kR q x):∀ {l:List Int},(∀ y∈l,kR q y∧y≠x)→l.Pairwise (fun i k=>eI q i k=true)→(jQ q x l).Pairwise (fun i k=>eI q i k=true)
 | [],_,_=>by simp [jQ]
 | y::l,h,hp=>by
  rw [List.pairwise_cons] at hp;have hy:=h y List.mem_cons_self;simp only [jQ];by_cases hs:eI q x y=true
  ·rw [if_pos hs,List.pairwise_cons];refine ⟨fun z hz=>?_,List.pairwise_cons.2 hp⟩;rcases List.mem_cons.1 hz with rfl | hz
   ·exact hs
   exact nH hx hy.1 (h z (List.mem_cons_of_mem _ hz)).1 hs (hp.1 z hz)
  rw [if_neg hs,List.pairwise_cons];refine ⟨fun z hz=>?_,oO hx (fun z hz=>h z (List.mem_cons_of_mem _ hz)) hp.2⟩;have:=(oE q x l).mem_iff.1 hz;rcases List.mem_cons.1 this with rfl | hz
  ·exact (tS hx hy.1 (Ne.symm hy.2)).resolve_left hs
  exact hp.1 z hz
def pD (q:List aE) (n:Nat):List Int:=(cU n).foldl (fun a x=>jQ q x a) []
theorem sL (n:Nat):cU (n+1)=cU n++[(n:Int)]:=by simp [cU,List.range_succ]
theorem qT (q:List aE) (n:Nat):pD q (n+1)=jQ q n (pD q n):=by simp [pD,sL]
theorem qU (q:List aE):∀ n,(pD q n).Perm (cU n)
 | 0=>.refl _
 | n+1=>by
  rw [qT,sL];refine (oE q n _).trans (((qU q n).cons _).trans ?_);exact (List.perm_append_comm (l₁:=[(n:Int)]) (l₂:=cU n))
theorem iJ {n:Nat} {i:Int}:i∈cU n↔0≤i∧i.toNat < n:=by
 simp only [cU,List.mem_map,List.mem_range];constructor
 ·rintro ⟨k,hk,rfl⟩;omega
 rintro ⟨h0,h1⟩;exact ⟨i.toNat,h1,by omega⟩
theorem jR {q:List aE} {n:Nat} {i:Int}:i∈pD q n↔0≤i∧i.toNat < n:=by rw [(qU q n).mem_iff,iJ]
theorem zU (q:List aE) (n:Nat):(pD q n).length=n:=by rw [(qU q n).length_eq];simp [cU]
theorem mF (q:List aE):∀ n,n≤q.length→(pD q n).Pairwise (fun i k=>eI q i k=true)
 | 0,_=>by simp [pD,cU]
 | n+1,h=>by
  rw [qT];refine oO ⟨by omega,by omega⟩ (fun y hy=>?_) (mF q n (by omega));rw [jR] at hy;exact ⟨⟨hy.1,by omega⟩,by omega⟩
theorem eV (q:List aE):kQ q=pD q q.length:=rfl
end T4
namespace T4
open Go Go.Proofs Pk
def rC (x y:Int):Int:=if x < y then -1 else if y < x then 1 else 0
theorem e52 (x y:Int):NS x y=some (rC x y):=by
 unfold rC;unfold NS QM;simp only [ne_eq,not_true,decide_false,Option.bind_some,Bool.false_eq_true,if_false];by_cases a:x < y
 ·simp [a]
 by_cases b:y < x <;> simp [a,b]
theorem e56 (a b:Int):QN [a,b]=some (if a≠0 then a else b):=by
 have h1:aQ (vO [a,b]) 0=some (rY (ε:=Unit⊕Int) (fun _ x=>if x≠0 then some (.inr x) else none) (.inl ()) [a,b] 0):=by
  refine jP [a,b] _ _ (fun i x hi hx=>?_) ?_
  ·unfold vO;rw [if_pos (by omega),hx,Option.bind_some];by_cases h:x≠0 <;> simp [h]
  unfold vO;simp
 unfold QN;rw [h1];by_cases ha:a=0
 ·by_cases hb:b=0 <;> simp [rY,ha,hb]
 simp [rY,ha]
theorem e51 {q:List aE} {i k:Int} (hi:kR q i) (hk:kR q k):∃ c,NU i k q=some c∧(c < 0↔((q[i.toNat]'hi.2).minute < (q[k.toNat]'hk.2).minute∨((q[i.toNat]'hi.2).minute=(q[k.toNat]'hk.2).minute∧(q[i.toNat]'hi.2).by_ < (q[k.toNat]'hk.2).by_))):=by
 refine ⟨if rC (q[i.toNat]'hi.2).minute (q[k.toNat]'hk.2).minute≠0 then rC (q[i.toNat]'hi.2).minute (q[k.toNat]'hk.2).minute else rC (q[i.toNat]'hi.2).by_ (q[k.toNat]'hk.2).by_,?_,?_⟩
 ·unfold NU NT;rw [bU hi.1,List.getElem?_eq_getElem hi.2,Option.bind_some,bU hk.1,List.getElem?_eq_getElem hk.2,Option.bind_some,e52,Option.bind_some,e52,Option.bind_some,e56];rfl
 generalize (q[i.toNat]'hi.2)=x;generalize (q[k.toNat]'hk.2)=y;unfold rC;by_cases a:x.minute < y.minute
 ·simp [a]
 by_cases b:y.minute < x.minute
 ·simp [a,b];omega
 have e:x.minute=y.minute:=by omega
 by_cases c:x.by_ < y.by_
 ·simp [e,c]
 by_cases d:y.by_ < x.by_ <;> simp [e,c,d]
theorem SQ {q:List aE} {e2:Nat×List Int} (he:e2.1=0) {x:Int} (hx:kR q x):∀ (n:Nat) (A B:List Int),A.length=n→n≤1000000→(∀ y∈A,kR q y∧y < x)→A.Pairwise (fun i k=>eI q i k=true)→aQ (kL e2 q) ((n:Int),A++x::B)=some (jQ q x A++B):=by
 intro n
 induction n with
 | zero =>
  intro A B hn _ _ _;obtain rfl:=List.length_eq_zero_iff.1 hn;exact cN (by unfold kL;rw [he];simp [jQ])
 | succ n ih =>
  intro A B hn hb hA hs;obtain ⟨A',y,rfl⟩:∃ m c,A=m++[c]:=⟨A.dropLast,A.getLast (by intro c;rw [c] at hn;cases hn),(List.dropLast_concat_getLast _).symm⟩;have hn':A'.length=n:=by simpa using hn
  have hy:=hA y (by simp);have hL:(A'++[y])++x::B=A'++y::x::B:=by simp
  rw [hL];have g1:(A'++y::x::B)[(((n+1:Nat):Int)).toNat]?=some x:=by
   rw [show (((n+1:Nat):Int)).toNat=A'.length+1 by omega,List.getElem?_append_right (by omega)];simp
  have g2:(A'++y::x::B)[((((n+1:Nat):Int)) - 1).toNat]?=some y:=by
   rw [show ((((n+1:Nat):Int)) - 1).toNat=A'.length by omega,List.getElem?_append_right (by omega)];simp
  obtain ⟨c,hc,hciff⟩:=e51 hx hy.1;have hsoon:eI q x y=true↔c < 0:=by
   rw [hciff,iC hx hy.1,fJ];have:=hy.2;omega
  by_cases hxy:eI q x y=true
  ·have hset:((A'++y::x::B).set (((n+1:Nat):Int)).toNat y).set ((((n+1:Nat):Int)) - 1).toNat x=A'++x::y::B:=by
    rw [show (((n+1:Nat):Int)).toNat=A'.length+1 by omega,show ((((n+1:Nat):Int)) - 1).toNat=A'.length by omega];rw [List.set_append_right _ _ (by omega),List.set_append_right _ _ (by omega)];simp
   have g3:((A'++y::x::B).set (((n+1:Nat):Int)).toNat y)[((((n+1:Nat):Int)) - 1).toNat]?=some y:=by
    rw [show (((n+1:Nat):Int)).toNat=A'.length+1 by omega,show ((((n+1:Nat):Int)) - 1).toNat=A'.length by omega];rw [List.set_append_right _ _ (by omega),List.getElem?_append_right (by omega)];simp
   have hstep:kL e2 q ((((n+1:Nat):Int)),A'++y::x::B)=some (.inl ((n:Int),A'++x::y::B)):=by
    unfold kL;rw [he];simp only [g1,g2,hc,Option.bind_some];rw [if_pos (by omega),bU (by omega),bU (by omega),bU (by omega)];simp only [Option.bind_some];rw [if_pos (by rw [decide_eq_true_iff];exact hsoon.1 hxy),bU (by omega),bU (by omega),bU (by omega)];simp only [g3,Option.bind_some,hset];congr 4;omega
   rw [eH hstep,ih A' (y::B) hn' (by omega) (fun z hz=>hA z (by simp [hz])) (List.pairwise_append.1 hs).1]
   have:jQ q x (A'++[y])=jQ q x A'++[y]:=by
    clear ih hset g3 hstep g1 g2 hL hn hs hA hn'
    induction A' with
    | nil=>simp [jQ,hxy]
    | cons z A' ih=>simp only [List.cons_append,jQ];split <;> simp [ih]
   rw [this];simp
  have hstop:kL e2 q ((((n+1:Nat):Int)),A'++y::x::B)=some (.inr (A'++y::x::B)):=by
   unfold kL;rw [he];simp only [g1,g2,hc,Option.bind_some];rw [if_pos (by omega),bU (by omega),bU (by omega),bU (by omega)];simp only [Option.bind_some];rw [if_neg (by rw [decide_eq_true_iff];exact fun h=>hxy (hsoon.2 h))]
  rw [cN hstop]
  have:∀ (C:List Int),(∀ z∈C,kR q z∧eI q z y=true)→jQ q x (C++[y])=C++[y,x]:=by
   intro C
   induction C with
   | nil=>intro _;simp [jQ,hxy]
   | cons z C ih =>
    intro hC;have hz:=hC z List.mem_cons_self
    have:¬eI q x z=true:=fun h=>hxy (nH hx hz.1 hy.1 h hz.2)
    simp only [List.cons_append,jQ,if_neg this];rw [ih (fun w hw=>hC w (List.mem_cons_of_mem _ hw))]
  rw [this A' (fun z hz=>⟨(hA z (by simp [hz])).1,(List.pairwise_append.1 hs).2.2 z hz y (by simp)⟩)];simp
theorem FB {q:List aE} {n:Nat} (hn:n=q.length) (hb:n≤1000000) (e2:Nat×List Int) (he:e2.1=0) (i:Nat) (hi:i < n):aQ (kL e2 q) ((i:Int),pD q i++(cU n).drop i)=some (pD q (i+1)++(cU n).drop (i+1)):=by
 have hd:(cU n).drop i=(i:Int)::(cU n).drop (i+1):=by
  rw [List.drop_eq_getElem_cons (by simp [cU];omega)];simp [cU]
 rw [hd,qT];refine SQ he ⟨by omega,by omega⟩ i (pD q i) _ (zU q i) (by omega) (fun y hy=>?_) (mF q i (by omega));rw [jR] at hy;exact ⟨⟨hy.1,by omega⟩,by omega⟩
theorem SR {q:List aE} {n:Nat} (hn:n=q.length) (hb:n≤1000000) (e1:List Int) (h1:e1.length=n) (e2:Nat×List Int) (he:e2.1=0):∀ (k i:Nat),n - i=k→i≤n→aQ (jU e1 e2 q) (i,pD q i++(cU n).drop i)=some (pD q n):=by
 intro k
 induction k with
 | zero =>
  intro i hk hi;obtain rfl:i=n:=by omega
  have:(cU i).drop i=[]:=List.drop_eq_nil_of_le (by simp [cU])
  rw [this,List.append_nil];exact cN (by unfold jU;simp [h1])
 | succ k ih =>
  intro i hk hi;rw [eH (s':=(i+1,pD q (i+1)++(cU n).drop (i+1)))]
  ·exact ih (i+1) (by omega) (by omega)
  unfold jU;rw [if_pos (by simp;omega)];simp only [FB hn hb e2 he i (by omega),Option.bind_some]
theorem SS (s:Nat×Nat×List Int) (q:List aE):zF s q=kL (s.1,s.2.2) q:=by unfold zF kL;rfl
theorem SU {q:List aE} {n:Nat} (hn:n=q.length) (hb:n≤1000000) (s:Nat×Nat×List Int) (hs1:s.1=0) (hs2:s.2.1=n):∀ (k i:Nat),n - i=k→i≤n→aQ (vQ s q) (i,pD q i++(cU n).drop i)=some (pD q n):=by
 intro k
 induction k with
 | zero =>
  intro i hk hi;obtain rfl:i=n:=by omega
  have:(cU i).drop i=[]:=List.drop_eq_nil_of_le (by simp [cU])
  rw [this,List.append_nil];exact cN (by unfold vQ;simp [hs2])
 | succ k ih =>
  intro i hk hi;rw [eH (s':=(i+1,pD q (i+1)++(cU n).drop (i+1)))]
  ·exact ih (i+1) (by omega) (by omega)
  have h1:=FB hn hb (s.1,s.2.2) hs1 i (by omega);rw [← SS] at h1;unfold vQ;rw [if_pos (by simp;omega)];dsimp only;rw [h1,Option.bind_some,bU (by omega)]
theorem zV (q:List aE) {n:Nat} (h:1≤n):pD q 1++(cU n).drop 1=cU n:=by
 obtain ⟨m,rfl⟩:∃ m,n=m+1:=⟨n - 1,by omega⟩;simp [pD,cU,jQ,List.range_succ_eq_map]
theorem FC {q:List aE} (h:q.length≤20):(((aQ (lM (cU q.length) q) (0, 20, cU q.length)).bind fun eA1 =>
        ((cQ (-9223372036854775808≤((eA1.1:Int)+1)∧((eA1.1:Int)+1)≤9223372036854775807) <|
          (aQ (jU (cU q.length) eA1 q) ((eA1.1+1),eA1.2)).bind fun eB1=>some eB1):Option (List Int)).bind fun t0 =>
        (aQ (qK (cU q.length)) 20).bind fun _=>some t0):Option (List Int))=some (kQ q):=by
  have hlen:(cU q.length).length=q.length:=by simp [cU]
  have h7:aQ (qK (cU q.length)) 20=some ():=cN (by unfold qK;rw [if_neg (by omega)]);rcases Nat.lt_or_ge q.length 20 with h4 | h4
  · have h2:aQ (lM (cU q.length) q) (0,20,cU q.length)=some (0,cU q.length):=cN (by unfold lM;rw [if_neg (by simp;omega)]);rw [h2,Option.bind_some];simp only;rw [bU (by omega)];rcases Nat.eq_zero_or_pos q.length with h0 | h0
    · have hi0:cU q.length=[]:=by rw [h0];rfl
      have h5:aQ (jU (cU q.length) (0,cU q.length) q) (0+1,cU q.length)=some (cU q.length):=cN (by unfold jU;rw [if_neg (by simp;omega)]);rw [h5,Option.bind_some,Option.bind_some,h7,Option.bind_some];rw [eV,h0];rfl
    have h5:=SR (q:=q) rfl (by omega) (cU q.length) hlen (0,cU q.length) rfl (q.length - 1) 1 rfl (by omega);rw [zV q h0] at h5;rw [h5,Option.bind_some,Option.bind_some,h7,Option.bind_some];rfl
  have h1:q.length=20:=by omega
  have h3:=SU (q:=q) (n:=20) h1.symm (by omega) (0,20,cU 20) rfl rfl 19 1 rfl (by omega);rw [zV q (by omega)] at h3;have h2:aQ (lM (cU q.length) q) (0,20,cU q.length)=some (20,pD q 20):=by
    rw [h1];rw [eH (s':=(20,40,pD q 20)) (by unfold lM;rw [if_pos (by simp [cU]),bU (by omega),h3,Option.bind_some,Option.bind_some,bU (by dsimp only;omega)])];exact cN (by unfold lM;rw [if_neg (by simp [cU])])
  rw [h2,Option.bind_some];simp only;rw [bU (by omega)];have h5:aQ (jU (cU q.length) (20,pD q 20) q) (20+1,pD q 20)=some (pD q 20):=cN (by unfold jU;rw [if_neg (by simp;omega)]);rw [h5,Option.bind_some,Option.bind_some,h7,Option.bind_some,eV,h1]
end T4
namespace T4
open Go Go.Proofs Pk
abbrev DS:=List Int×List aE×List Int
def dT (l:aM) (sw:List bW) (r:aY) (q:List aE) (s:DS) (i:Int):DS :=
 match q[i.toNat]? with
 | none=>s
 | some x=>if lF l sw r s.2.1 x=0 then (s.1++[i],s.2.1++[x],s.2.2.set i.toNat 0) else (s.1,s.2.1,s.2.2.set i.toNat (lF l sw r s.2.1 x))
def qV (l:aM) (sw:List bW) (r:aY) (q:List aE):DS:=(kQ q).foldl (dT l sw r q) ([],[],List.replicate q.length 0)
def cY (l:aM) (sw:List bW) (r:aY) (q:List aE):List Int:=(qV l sw r q).2.2
theorem IN {l:aM} {sw:List bW} {r:aY} {q:List aE} (h:RQ r q) (hr:dL r=true) (hq:∀ x∈q,x.cut≤9223372036854775807):SP r q:=by
 unfold dL at hr;simp only [Bool.and_eq_true,In,decide_eq_true_eq] at hr;exact ⟨h.words1,MU h.words2,hr.1.2,hr.2,h.req1,fun x hx=>⟨Nat.le_trans (h.req2 x hx).1 (by decide),fun s hs=>Nat.le_trans ((h.req2 x hx).2 s hs) (by decide),hq x hx⟩⟩
structure TY (r:aY) (n i:Nat) (s:DS):Prop where
 a:s.1.length≤i
 b:s.2.1.length≤i
 c:s.2.2.length=n
 d:∀ x∈s.2.1,dS r x
theorem TY.step {l:aM} {sw:List bW} {r:aY} {q:List aE} {n i:Nat} {s:DS} {x:Int} (h:TY r n i s):TY r n (i+1) (dT l sw r q s x):=by
 obtain ⟨a,b,c,d⟩:=h;unfold dT
 cases hx:q[x.toNat]? with
 | none=>exact ⟨by dsimp only;omega,by dsimp only;omega,c,d⟩
 | some y =>
  dsimp only;by_cases e:lF l sw r s.2.1 y=0
  ·rw [if_pos e];refine ⟨by simp;omega,by simp;omega,by simp [c],fun z hz=>?_⟩;simp only [List.mem_append,List.mem_singleton] at hz;rcases hz with hz | rfl
   ·exact d z hz
   unfold lF at e;by_cases k:kN l sw r z≠0
   ·rw [if_pos k] at e;exact absurd e k
   exact nG (Decidable.not_not.1 k)
  rw [if_neg e];exact ⟨by dsimp only;omega,by dsimp only;omega,by simp [c],d⟩
theorem SV {l:aM} {sw:List bW} {r:aY} {q:List aE} (hf:SP r q) (e1:List Int) (he:e1.length=q.length) (rr:rules×Int) (hrr:rr.1=⟨fI l,sw⟩) :
  aQ (qL e1 (kQ q) q r rr) (0,([]:List Int),([]:List aE),(List.replicate q.length (0:Int)))=some (qV l sw r q):=by
 have hol:(kQ q).length=q.length:=by rw [eV,zU]
 refine iB (σ:=DS) (kQ q) (dT l sw r q) (fun s=>(s.1,s.2.1,s.2.2)) (fun i s=>TY r q.length i s) (fun i x s hi hx hI=>?_) (fun i x s hi hx hI=>hI.step) (fun s hI=>?_) ⟨by simp,by simp,by simp,by simp⟩
 ·have hm:=List.mem_of_getElem? hx;rw [eV,jR] at hm;have hq:q[x.toNat]?=some (q[x.toNat]'hm.2):=List.getElem?_eq_getElem hm.2;have hql:=hf.q1;have h9:=e53 (l:=l) (sw:=sw) (d:=(⟨r,rr.1,s.2.1,s.1,s.2.2⟩:cJ)) (q:=q[x.toNat]'hm.2) hf.w1 hf.w2 hf.out hf.within (hf.q2 _ (List.mem_of_getElem? hq)) hrr (fun y hy=>qS (hI.d y hy) (by have:=hf.w1;omega));unfold qL dT;rw [if_pos (by simp;omega)];simp only [hx,Option.bind_some];rw [bU hm.1];simp only [hq,Option.bind_some,h9];have hlt:x.toNat < s.2.2.length:=by rw [hI.c];exact hm.2
  rw [List.getElem?_eq_getElem hlt,Option.bind_some,List.getElem?_set_self hlt,Option.bind_some];have ha:=hI.a;have hb:=hI.b;by_cases e:lF l sw r s.2.1 (q[x.toNat]'hm.2)=0
  ·simp only [e,if_true];rw [bU (by simp;omega),bU (by simp;omega)];rfl
  simp only [e,if_false];rfl
 rw [hol];unfold qL;rw [if_neg (by simp [he])]
end T4
namespace T4
open Go Go.Proofs Pk
end T4
namespace T4
open Go Go.Proofs Pk
end T4
namespace T4
open Go Go.Proofs Pk
theorem rK (q:List aE) (i:Int):¬eI q i i=true:=by
 unfold eI
 cases q[i.toNat]? with
 | none=>simp
 | some x=>simp [nD]
theorem oP (q:List aE):(kQ q).Nodup:=by
 have h:=mF q q.length (Nat.le_refl _);rw [← eV] at h;exact h.imp fun {a b} hs e=>by subst e;exact rK q a hs
end T4
namespace T4
open Go Go.Proofs Pk
end T4
namespace T4
open Go Go.Proofs Pk
structure Dn (l:aM) (sw:List bW) (r:aY) (q:List aE) (s:DS) (done:List Int):Prop where
 a:∀ i∈done,kR q i
 b:s.2.2.length=q.length
 c:∀ y∈s.2.1,∃ j∈done,q[j.toNat]?=some y∧s.2.2[j.toNat]?=some 0
 d:∀ i∈done,∃ acc x,q[i.toNat]?=some x∧s.2.2[i.toNat]?=some (lF l sw r acc x)∧∀ y∈acc,∃ j∈done,j≠i∧q[j.toNat]?=some y∧s.2.2[j.toNat]?=some 0
theorem Dn.step {l:aM} {sw:List bW} {r:aY} {q:List aE} {s:DS} {done:List Int} {m:Int} (h:Dn l sw r q s done) (hm:kR q m) (hn:m∉done):Dn l sw r q (dT l sw r q s m) (done++[m]):=by
 obtain ⟨a,b,c,d⟩:=h;have hx:q[m.toNat]?=some (q[m.toNat]'hm.2):=List.getElem?_eq_getElem hm.2;generalize q[m.toNat]'hm.2=x at hx;have hset:∀ j∈done,∀ v:Int,(s.2.2.set m.toNat v)[j.toNat]?=s.2.2[j.toNat]?:=by
  intro j hj v;rw [List.getElem?_set_ne];intro e;apply hn;have:=(a j hj).1;have:=hm.1;rw [show m=j by omega];exact hj
 have hself:∀ v:Int,(s.2.2.set m.toNat v)[m.toNat]?=some v:=fun v=>List.getElem?_set_self (by rw [b];exact hm.2);have hst:∃ acc',(acc'=s.2.1∨(acc'=s.2.1++[x]∧lF l sw r s.2.1 x=0))∧(dT l sw r q s m).2=(acc',s.2.2.set m.toNat (lF l sw r s.2.1 x)):=by
  unfold dT;rw [hx];dsimp only;by_cases e:lF l sw r s.2.1 x=0
  ·rw [if_pos e];exact ⟨_,.inr ⟨rfl,e⟩,by rw [e]⟩
  rw [if_neg e];exact ⟨_,.inl rfl,rfl⟩
 obtain ⟨acc',hacc,hst⟩:=hst;refine ⟨fun i hi=>?_,by rw [hst];simp [b],fun y hy=>?_,fun i hi=>?_⟩
 ·rcases List.mem_append.1 hi with h | h
  ·exact a i h
  rw [List.mem_singleton.1 h];exact hm
 ·rw [hst] at hy ⊢;have old:y∈s.2.1→∃ j∈done++[m],q[j.toNat]?=some y∧(s.2.2.set m.toNat (lF l sw r s.2.1 x))[j.toNat]?=some 0:=by
   intro hy;obtain ⟨j,h1,h2,h3⟩:=c y hy;exact ⟨j,List.mem_append_left _ h1,h2,by rw [hset j h1];exact h3⟩
  rcases hacc with e | ⟨e,e0⟩
  ·rw [e] at hy;exact old hy
  rw [e] at hy;rcases List.mem_append.1 hy with h | h
  ·exact old h
  rw [List.mem_singleton.1 h];refine ⟨m,by simp,hx,?_⟩;rw [e0];exact hself 0
 rw [hst];rcases List.mem_append.1 hi with h | h
 ·obtain ⟨ac,z,h1,h2,h3⟩:=d i h;refine ⟨ac,z,h1,by rw [hset i h];exact h2,fun y hy=>?_⟩;obtain ⟨j,g1,g2,g3,g4⟩:=h3 y hy;exact ⟨j,List.mem_append_left _ g1,g2,g3,by rw [hset j g1];exact g4⟩
 rw [List.mem_singleton.1 h];refine ⟨s.2.1,x,hx,hself _,fun y hy=>?_⟩;obtain ⟨j,h1,h2,h3⟩:=c y hy;exact ⟨j,List.mem_append_left _ h1,fun e=>hn (by rw [← e];exact h1),h2,by rw [hset j h1];exact h3⟩
theorem Dn.all {l:aM} {sw:List bW} {r:aY} {q:List aE}:∀ (o done:List Int) (s:DS),(done++o).Nodup→(∀ m∈o,kR q m)→Dn l sw r q s done→Dn l sw r q (o.foldl (dT l sw r q) s) (done++o)
 | [],done,s,_,_,h=>by simpa using h
 | m::o,done,s,hn,ho,h=>by
  rw [List.foldl_cons];have h1:m∉done:=by
   intro hm;rw [List.nodup_append] at hn;exact hn.2.2 m hm m List.mem_cons_self rfl
  have:=Dn.all o (done++[m]) (dT l sw r q s m) (by simpa using hn) (fun k hk=>ho k (List.mem_cons_of_mem _ hk)) (h.step (ho m List.mem_cons_self) h1);simpa using this
theorem MY {l:aM} {sw:List bW} {r:aY} {q:List aE} {i:Nat} {x:aE} (hx:q[i]?=some x):∃ acc,(cY l sw r q)[i]?=some (lF l sw r acc x)∧∀ y∈acc,∃ j:Nat,j≠i∧q[j]?=some y∧(cY l sw r q)[j]?=some 0:=by
 have h:=Dn.all (l:=l) (sw:=sw) (r:=r) (q:=q) (kQ q) [] ([],[],List.replicate q.length 0) (by simpa using oP q) (fun m hm=>by rw [eV,jR] at hm;exact hm) ⟨by simp,by simp,by simp,by simp⟩;rw [List.nil_append] at h;have hi:(i:Int)∈kQ q:=by
  rw [eV,jR];have:=(List.getElem?_eq_some_iff.1 hx).1;omega
 obtain ⟨acc,z,h1,h2,h3⟩:=h.d i hi;rw [Int.toNat_natCast] at h1 h2;obtain rfl:z=x:=Option.some.inj (h1.symm.trans hx);refine ⟨acc,h2,fun y hy=>?_⟩;obtain ⟨j,g1,g2,g3,g4⟩:=h3 y hy;exact ⟨j.toNat,fun e=>g2 (by have:=(h.a j g1).1;omega),g3,g4⟩
theorem FD {l:aM} {sw:List bW} {r:aY} {q:List aE} {i:Nat} {x:aE} (hx:q[i]?=some x) (h:(cY l sw r q)[i]?=some 0):kN l sw r x=0:=by
 obtain ⟨acc,h1,_⟩:=MY (l:=l) (sw:=sw) (r:=r) hx;have:=Option.some.inj (h1.symm.trans h);unfold lF at this;by_cases a:kN l sw r x=0
 ·exact a
 rw [if_pos a] at this;exact absurd this a
end T4
namespace T4
open Go Go.Proofs Pk
theorem sM (x y:aE):gL x y=gL y x:=by
 unfold gL;by_cases a:x.cut=0 <;> by_cases b:y.cut=0
 ·simp only [a,b,and_self,if_true];exact decide_eq_decide.2 ⟨Eq.symm,Eq.symm⟩
 ·simp [a,b]
 ·simp [a,b]
 simp only [a,b,and_self,if_false];exact decide_eq_decide.2 ⟨And.symm,And.symm⟩
end T4
namespace T4
open Go Go.Proofs Pk
structure Wn (q:List aE) (s:DS) (done:List Int):Prop where
 a:s.1.Nodup
 b:∀ i∈s.1,i∈done
 d:∀ i∈s.1,∀ j∈s.1,i≠j→∀ x y,q[i.toNat]?=some x→q[j.toNat]?=some y→gL x y=false
 e:∀ i∈done,(i∈s.1↔s.2.2[i.toNat]?=some 0)
 f:∀ i∈s.1,∀ x,q[i.toNat]?=some x→x∈s.2.1
 g:s.2.2.length=q.length
 h:∀ i∈done,kR q i
theorem Wn.step {l:aM} {sw:List bW} {r:aY} {q:List aE} {s:DS} {done:List Int} {m:Int} (H:Wn q s done) (hm:kR q m) (hn:m∉done):Wn q (dT l sw r q s m) (done++[m]):=by
 obtain ⟨a,b,d,e,f,g,h⟩:=H;have hx:q[m.toNat]?=some (q[m.toNat]'hm.2):=List.getElem?_eq_getElem hm.2;generalize q[m.toNat]'hm.2=x at hx;have hset:∀ j∈done,∀ v:Int,(s.2.2.set m.toNat v)[j.toNat]?=s.2.2[j.toNat]?:=by
  intro j hj v;rw [List.getElem?_set_ne];intro e;apply hn;have:=(h j hj).1;have:=hm.1;rw [show m=j by omega];exact hj
 have hself:∀ v:Int,(s.2.2.set m.toNat v)[m.toNat]?=some v:=fun v=>List.getElem?_set_self (by rw [g];exact hm.2);have hms:m∉s.1:=fun hh=>hn (b m hh);have hok:∀ i∈done++[m],kR q i:=fun i hi=>by
  rcases List.mem_append.1 hi with h1 | h1
  ·exact h i h1
  rw [List.mem_singleton.1 h1];exact hm
 unfold dT;rw [hx];dsimp only;by_cases e0:lF l sw r s.2.1 x=0
 ·rw [if_pos e0];have hfree:∀ y∈s.2.1,gL x y=false:=by
   unfold lF at e0;by_cases a0:kN l sw r x=0
   ·rw [if_neg (by simp [a0])] at e0;intro y hy;cases hM:gL x y
    ·rfl
    rw [if_pos (List.any_eq_true.2 ⟨y,hy,hM⟩)] at e0;cases e0
   rw [if_pos a0] at e0;exact absurd e0 a0
  refine ⟨?_,?_,?_,?_,?_,by simp [g],hok⟩
  ·dsimp only;rw [List.nodup_append];exact ⟨a,by simp,fun i hi j hj e=>by rw [List.mem_singleton.1 hj] at e;exact hms (e▸hi)⟩
  ·intro i hi;rcases List.mem_append.1 hi with h1 | h1
   ·exact List.mem_append_left _ (b i h1)
   exact List.mem_append_right _ h1
  ·intro i hi j hj hij y z hy hz;rcases List.mem_append.1 hi with h1 | h1 <;> rcases List.mem_append.1 hj with h2 | h2
   ·exact d i h1 j h2 hij y z hy hz
   ·rw [List.mem_singleton.1 h2,hx] at hz;rw [← Option.some.inj hz,sM];exact hfree y (f i h1 y hy)
   ·rw [List.mem_singleton.1 h1,hx] at hy;rw [← Option.some.inj hy];exact hfree z (f j h2 z hz)
   exact absurd ((List.mem_singleton.1 h1).trans (List.mem_singleton.1 h2).symm) hij
  ·intro i hi;rcases List.mem_append.1 hi with h1 | h1
   ·dsimp only;rw [hset i h1,← e i h1,List.mem_append,List.mem_singleton];constructor
    ·rintro (h2 | h2)
     ·exact h2
     exact absurd (h2▸h1) hn
    exact .inl
   rw [List.mem_singleton.1 h1];dsimp only;rw [hself 0];simp
  intro i hi y hy;rcases List.mem_append.1 hi with h1 | h1
  ·exact List.mem_append_left _ (f i h1 y hy)
  rw [List.mem_singleton.1 h1,hx] at hy;exact List.mem_append_right _ (by simp [Option.some.inj hy])
 rw [if_neg e0];refine ⟨a,fun i hi=>List.mem_append_left _ (b i hi),d,?_,f,by simp [g],hok⟩;intro i hi;rcases List.mem_append.1 hi with h1 | h1
 ·dsimp only;rw [hset i h1];exact e i h1
 rw [List.mem_singleton.1 h1];dsimp only;rw [hself _];exact ⟨fun hh=>absurd hh hms,fun hh=>absurd (Option.some.inj hh) e0⟩
theorem Wn.all {l:aM} {sw:List bW} {r:aY} {q:List aE}:∀ (o done:List Int) (s:DS),(done++o).Nodup→(∀ m∈o,kR q m)→Wn q s done→Wn q (o.foldl (dT l sw r q) s) (done++o)
 | [],done,s,_,_,h=>by simpa using h
 | m::o,done,s,hn,ho,h=>by
  rw [List.foldl_cons];have h1:m∉done:=by
   intro hm;rw [List.nodup_append] at hn;exact hn.2.2 m hm m List.mem_cons_self rfl
  have:=Wn.all (l:=l) (sw:=sw) (r:=r) o (done++[m]) (dT l sw r q s m) (by simpa using hn) (fun k hk=>ho k (List.mem_cons_of_mem _ hk)) (h.step (ho m List.mem_cons_self) h1);simpa using this
def eL (l:aM) (sw:List bW) (r:aY) (q:List aE):List Int:=(qV l sw r q).1
theorem kS (l:aM) (sw:List bW) (r:aY) (q:List aE):Wn q (qV l sw r q) (kQ q):=by
 have h:=Wn.all (l:=l) (sw:=sw) (r:=r) (q:=q) (kQ q) [] ([],[],List.replicate q.length 0) (by simpa using oP q) (fun m hm=>by rw [eV,jR] at hm;exact hm) ⟨by simp,by simp,by simp,by simp,by simp,by simp,by simp⟩;rw [List.nil_append] at h;exact h
theorem oQ (l:aM) (sw:List bW) (r:aY) (q:List aE):(eL l sw r q).Nodup:=(kS l sw r q).a
theorem iK {l:aM} {sw:List bW} {r:aY} {q:List aE} {i:Int} (h:i∈eL l sw r q):kR q i:=(kS l sw r q).h i ((kS l sw r q).b i h)
theorem jJ {l:aM} {sw:List bW} {r:aY} {q:List aE} {i:Int}:i∈eL l sw r q↔kR q i∧(cY l sw r q)[i.toNat]?=some 0:=by
 have h:=kS l sw r q;constructor
 ·intro hi;exact ⟨iK hi,(h.e i (h.b i hi)).1 hi⟩
 rintro ⟨h1,h2⟩;exact (h.e i (by rw [eV,jR];exact h1)).2 h2
theorem mG {l:aM} {sw:List bW} {r:aY} {q:List aE} {i j:Int} (hi:i∈eL l sw r q) (hj:j∈eL l sw r q) (hij:i≠j) {x y:aE} (hx:q[i.toNat]?=some x) (hy:q[j.toNat]?=some y):gL x y=false:=(kS l sw r q).d i hi j hj hij x y hx hy
theorem kT {l:aM} {sw:List bW} {r:aY} {q:List aE} {i:Int} (hi:i∈eL l sw r q) {x:aE} (hx:q[i.toNat]?=some x):kN l sw r x=0:=FD hx (jJ.1 hi).2
def wT (x y:aE):Bool:=decide (x.aI < y.aI)||(decide (x.aI=y.aI)&&decide (x.cut < y.cut))
def FE (q:List aE) (i j:Int):Bool:=match q[i.toNat]?,q[j.toNat]? with
 | some x,some y=>wT x y
 | _,_=>false
theorem oF {x y:aE} (hx:0≤x.cut) (hy:0≤y.cut) (hm:gL x y=false) (h:wT x y=true):x.aI+x.cut≤y.aI:=by
 unfold wT at h;simp only [Bool.or_eq_true,Bool.and_eq_true,decide_eq_true_eq] at h;unfold gL at hm;by_cases a:x.cut=0
 ·rcases h with h | h <;> omega
 by_cases b:y.cut=0
 ·simp only [a,b,false_and,if_false,if_true,decide_eq_false_iff_not] at hm;rcases h with h | h <;> omega
 simp only [a,b,false_and,if_false,decide_eq_false_iff_not] at hm;rcases h with h | h <;> omega
theorem wH {x y:aE} (hx:0≤x.cut) (hy:0≤y.cut) (hm:gL x y=false):wT x y=true∨wT y x=true:=by
 unfold wT;simp only [Bool.or_eq_true,Bool.and_eq_true,decide_eq_true_eq];unfold gL at hm;by_cases a:x.cut=0
 ·by_cases b:y.cut=0
  ·simp only [a,b,and_self,if_true,decide_eq_false_iff_not] at hm;omega
  omega
 by_cases b:y.cut=0
 ·omega
 simp only [a,b,false_and,if_false,decide_eq_false_iff_not] at hm;omega
end T4
namespace T4
open Go Go.Proofs Pk
def eA (r:aY) (q:List aE) (s:Int×List aT) (i:Int):Int×List aT:=match q[i.toNat]? with
 | none=>s
 | some x=>(x.aI+x.cut,(if s.1 < x.aI then s.2++[⟨jZ r s.1 x.aI,jZ r s.1 x.aI,-1⟩] else s.2)++[⟨jZ r x.aI (x.aI+x.cut),x.cV,i⟩])
def tT (r:aY) (s:Int×List aT):List aT:=if s.1 < (r.words.length:Int) then s.2++[⟨jZ r s.1 r.words.length,jZ r s.1 r.words.length,-1⟩] else s.2
def IP (r:aY) (q:List aE) (is:List Int):List aT:=tT r (is.foldl (eA r q) (0,[]))
def wI (q:List aE) (err:List Int) (p c:Int) (i:Int):Bool:=decide (err[i.toNat]?=some 0)&&(match q[i.toNat]? with
 | some x=>decide (x.aI=p)&&decide (min x.cut 1=c)
 | none=>false)
def dO (n:Nat) (q:List aE) (err:List Int):List Int:=(List.range (n+1)).flatMap fun (p:Nat)=>(cU q.length).filter (wI q err (p:Int) 0)++(cU q.length).filter (wI q err (p:Int) 1)
theorem fX {q:List aE} {err:List Int} {p c i:Int}:wI q err p c i=true↔err[i.toNat]?=some 0∧∃ x,q[i.toNat]?=some x∧x.aI=p∧min x.cut 1=c:=by
 unfold wI
 cases h:q[i.toNat]? with
 | none=>simp
 | some x=>simp [and_assoc]
theorem e36 {l:List aF} (h:l.length≤1073741824):QW l=some l:=by
 unfold QW;rw [bU (by simpa using h)];simp
section
variable {l:aM} {sw:List bW} {r:aY} {q:List aE}
theorem qW {n:Nat} {i:Int}:i∈dO n q (cY l sw r q)↔(i∈eL l sw r q∧∃ x,q[i.toNat]?=some x∧0≤x.aI∧x.aI≤n∧0≤x.cut)∨(i∈dO n q (cY l sw r q)∧∃ x,q[i.toNat]?=some x∧x.cut < 0):=by
 constructor
 ·intro h;unfold dO at h;rw [List.mem_flatMap] at h;obtain ⟨p,hp,h⟩:=h;rw [List.mem_append,List.mem_filter,List.mem_filter,fX,fX] at h;rw [List.mem_range] at hp;left;have key:∀ c:Int,(0≤c)→i∈cU q.length→((cY l sw r q)[i.toNat]?=some 0∧∃ x,q[i.toNat]?=some x∧x.aI=p∧min x.cut 1=c)→(i∈eL l sw r q∧∃ x,q[i.toNat]?=some x∧0≤x.aI∧x.aI≤n∧0≤x.cut):=by
   rintro c hc hi ⟨h1,x,h2,h3,h4⟩;exact ⟨jJ.2 ⟨iJ.1 hi,h1⟩,x,h2,by omega,by omega,by omega⟩
  rcases h with ⟨h1,h2⟩ | ⟨h1,h2⟩
  ·exact key 0 (by omega) h1 h2
  exact key 1 (by omega) h1 h2
 rintro (⟨h,x,hx,h1,h2,h3⟩ | ⟨h,_⟩)
 ·unfold dO;rw [List.mem_flatMap];refine ⟨x.aI.toNat,by rw [List.mem_range];omega,?_⟩;obtain ⟨h4,h5⟩:=jJ.1 h;rw [List.mem_append,List.mem_filter,List.mem_filter,fX,fX];by_cases hc:x.cut=0
  ·exact .inl ⟨iJ.2 h4,h5,x,hx,by omega,by omega⟩
  exact .inr ⟨iJ.2 h4,h5,x,hx,by omega,by omega⟩
 exact h
theorem gM {i:Int} (h:i∈eL l sw r q):∃ x,q[i.toNat]?=some x∧dS r x:=by
 have ho:=iK h;have hx:q[i.toNat]?=some (q[i.toNat]'ho.2):=List.getElem?_eq_getElem ho.2;exact ⟨_,hx,nG (kT h hx)⟩
theorem iL {i:Int}:i∈dO r.words.length q (cY l sw r q)↔i∈eL l sw r q:=by
 rw [qW];constructor
 ·rintro (⟨h,_⟩ | ⟨h,x,hx,hc⟩)
  ·exact h
  rw [qW] at h;rcases h with ⟨h,_⟩ | ⟨h,x',hx',hc'⟩
  ·exact h
  exfalso;unfold dO at h;rw [List.mem_flatMap] at h;obtain ⟨p,hp,h⟩:=h;rw [List.mem_append,List.mem_filter,List.mem_filter,fX,fX] at h;rcases h with ⟨_,_,y,hy,_,h4⟩ | ⟨_,_,y,hy,_,h4⟩
  all_goals
   rw [hx] at hy;have:=Option.some.inj hy;subst this;omega
 intro h;obtain ⟨x,hx,ha,hb,hc⟩:=gM h;exact .inl ⟨h,x,hx,ha,by omega,hb⟩
theorem FF {p c:Int} {i j:Int} (hi:i∈cU q.length) (hj:j∈cU q.length) (h1:wI q (cY l sw r q) p c i=true) (h2:wI q (cY l sw r q) p c j=true):i=j:=by
 rw [fX] at h1 h2;obtain ⟨a1,x,hx,b1,c1⟩:=h1;obtain ⟨a2,y,hy,b2,c2⟩:=h2;have w1:i∈eL l sw r q:=jJ.2 ⟨iJ.1 hi,a1⟩;have w2:j∈eL l sw r q:=jJ.2 ⟨iJ.1 hj,a2⟩;by_cases e:i=j
 ·exact e
 exfalso;have hm:=mG w1 w2 e hx hy;obtain ⟨x',hx',i1⟩:=gM w1;obtain ⟨y',hy',i2⟩:=gM w2;rw [hx] at hx';rw [hy] at hy';have:=Option.some.inj hx';subst this;have:=Option.some.inj hy';subst this;obtain ⟨_,hxc,_⟩:=i1;obtain ⟨_,hyc,_⟩:=i2;rcases wH hxc hyc hm with h | h <;> unfold wT at h <;> simp only [Bool.or_eq_true,Bool.and_eq_true,decide_eq_true_eq] at h
 ·have:=oF hxc hyc hm (by unfold wT;simp only [Bool.or_eq_true,Bool.and_eq_true,decide_eq_true_eq];exact h);omega
 have:=oF hyc hxc (by rw [sM];exact hm) (by unfold wT;simp only [Bool.or_eq_true,Bool.and_eq_true,decide_eq_true_eq];exact h);omega
theorem qX (n:Nat):(cU n).Nodup:=by
 unfold cU;exact List.Pairwise.map _ (fun a b h=>by omega) List.nodup_range
theorem zW (p c:Int) (R:Int→Int→Prop):((cU q.length).filter (wI q (cY l sw r q) p c)).Pairwise R:=by
 have h:=(qX q.length).filter (wI q (cY l sw r q) p c);refine h.imp_of_mem fun {a b} ha hb hab=>?_;rw [List.mem_filter] at ha hb;exact absurd (FF ha.1 hb.1 ha.2 hb.2) hab
theorem gJ {i j:Int} {x y:aE} (hx:q[i.toNat]?=some x) (hy:q[j.toNat]?=some y):FE q i j=wT x y:=by unfold FE;rw [hx,hy]
theorem jA (n:Nat):(dO n q (cY l sw r q)).Pairwise (fun i j=>FE q i j=true):=by
 unfold dO;rw [List.pairwise_flatMap];refine ⟨fun p hp=>?_,?_⟩
 ·rw [List.pairwise_append];refine ⟨zW _ _ _,zW _ _ _,fun i hi j hj=>?_⟩;rw [List.mem_filter,fX] at hi hj;obtain ⟨_,_,x,hx,h1,h2⟩:=hi;obtain ⟨_,_,y,hy,h3,h4⟩:=hj;rw [gJ hx hy];unfold wT;simp only [Bool.or_eq_true,Bool.and_eq_true,decide_eq_true_eq];omega
 refine List.pairwise_lt_range.imp fun {a b} hab i hi j hj=>?_;simp only [List.mem_append,List.mem_filter,fX] at hi hj;have hi':∃ x,q[i.toNat]?=some x∧x.aI=(a:Int):=by
  rcases hi with ⟨_,_,x,hx,h1,_⟩ | ⟨_,_,x,hx,h1,_⟩ <;> exact ⟨x,hx,h1⟩
 have hj':∃ x,q[j.toNat]?=some x∧x.aI=(b:Int):=by
  rcases hj with ⟨_,_,x,hx,h1,_⟩ | ⟨_,_,x,hx,h1,_⟩ <;> exact ⟨x,hx,h1⟩
 obtain ⟨x,hx,h1⟩:=hi';obtain ⟨y,hy,h2⟩:=hj';rw [gJ hx hy];unfold wT;simp only [Bool.or_eq_true,Bool.and_eq_true,decide_eq_true_eq];omega
theorem nI (n:Nat):(dO n q (cY l sw r q)).Nodup:=by
 refine (jA n).imp_of_mem fun {i j} hi hj h e=>?_;subst e;unfold FE at h
 cases hx:q[i.toNat]? with
 | none=>rw [hx] at h;cases h
 | some x=>rw [hx] at h;simp [wT] at h
theorem gO:(dO r.words.length q (cY l sw r q)).Perm (eL l sw r q):=by
 rw [List.perm_ext_iff_of_nodup (nI _) (oQ l sw r q)];exact fun i=>iL
theorem kZ:(eL l sw r q).length≤q.length:=by
 have h2:(eL l sw r q).Perm ((cU q.length).filter fun i=>decide (i∈eL l sw r q)):=by
  rw [List.perm_ext_iff_of_nodup (oQ l sw r q) ((qX _).filter _)];intro i;rw [List.mem_filter,decide_eq_true_eq];exact ⟨fun h=>⟨iJ.2 (iK h),h⟩,fun h=>h.2⟩
 have h3:(eL l sw r q).length≤(cU q.length).length:=by rw [h2.length_eq];exact List.length_filter_le _ _
 simpa [cU] using h3
theorem xZ (hw:r.words.length≤1000000) (hq:q.length≤1000000):mX (fun x0_ x1_=>QV x0_ x1_ q) (eL l sw r q)=some (dO r.words.length q (cY l sw r q)):=by
 have get:∀ i∈eL l sw r q,∃ x,q[i.toNat]?=some x∧dS r x∧0≤i:=fun i hi=>by
  obtain ⟨x,hx,h⟩:=gM hi;exact ⟨x,hx,h,(iK hi).1⟩
 have hle:=kZ (l:=l) (sw:=sw) (r:=r) (q:=q);refine CW (FE q) (by omega) (fun i hi j hj=>?_) (fun i hi=>?_) (fun i hi j hj k hk h1 h2=>?_) (fun i hi j hj hij=>?_) gO (jA _)
 ·obtain ⟨x,hx,⟨a1,a2,a3⟩,a4⟩:=get i hi;obtain ⟨y,hy,⟨b1,b2,b3⟩,b4⟩:=get j hj;refine ⟨if x.aI - y.aI≠0 then x.aI - y.aI else x.cut - y.cut,?_,?_⟩
  ·unfold QV NT;rw [bU a4,hx,Option.bind_some,bU b4,hy,Option.bind_some,bU (by omega),bU (by omega),e56];rfl
  rw [gJ hx hy];unfold wT;simp only [Bool.or_eq_true,Bool.and_eq_true,decide_eq_true_eq]
  split <;> omega
 ·obtain ⟨x,hx,_⟩:=get i hi;rw [gJ hx hx];simp [wT]
 ·obtain ⟨x,hx,_⟩:=get i hi;obtain ⟨y,hy,_⟩:=get j hj;obtain ⟨z,hz,_⟩:=get k hk;rw [gJ hx hy] at h1;rw [gJ hy hz] at h2;rw [gJ hx hz];unfold wT at *;simp only [Bool.or_eq_true,Bool.and_eq_true,decide_eq_true_eq] at *;omega
 obtain ⟨x,hx,⟨_,hxc,_⟩,_⟩:=get i hi;obtain ⟨y,hy,⟨_,hyc,_⟩,_⟩:=get j hj;rw [gJ hx hy,gJ hy hx];exact wH hxc hyc (mG hi hj hij hx hy)
theorem tU:(dO r.words.length q (cY l sw r q)).Pairwise (fun i j=>∀ x y,q[i.toNat]?=some x→q[j.toNat]?=some y→x.aI+x.cut≤y.aI):=by
 refine ((jA (l:=l) (sw:=sw) (r:=r) (q:=q) r.words.length).and (nI (l:=l) (sw:=sw) (r:=r) (q:=q) r.words.length)).imp_of_mem fun {i j} hi hj h x y hx hy=>?_;rw [iL] at hi hj;obtain ⟨x',hx',_,hxc,_⟩:=gM hi;obtain ⟨y',hy',_,hyc,_⟩:=gM hj;rw [hx] at hx';rw [hy] at hy';have:=Option.some.inj hx';subst this;have:=Option.some.inj hy';subst this;have h1:=h.1;rw [gJ hx hy] at h1;exact oF hxc hyc (mG hi hj h.2 hx hy) h1
end
end T4
namespace T4
open Go Go.Proofs Pk
section
variable {l:aM} {sw:List bW} {r:aY} {q:List aE}
theorem oR (r:aY) (q:List aE) (s:Int×List aT) (i:Int):(eA r q s i).2.length≤s.2.length+2:=by
 unfold eA
 cases q[i.toNat]? with
 | none=>simp
 | some x=>dsimp only;split <;> simp
theorem BD (hw:r.words.length≤85) (hq:q.length≤25) (hp:∀ x∈q,x.cV.length≤1073741824) (t:List Int×List aE×List dJ×(List (aF×aW))×List bW×List Int) (ht:t.2.2.1=r.words) (hl:t.1.length=(dO r.words.length q (cY l sw r q)).length) :
  aQ (qM t (dO r.words.length q (cY l sw r q)) q r) (0,0,([]:List aT))=some ((dO r.words.length q (cY l sw r q)).foldl (eA r q) (0,[])):=by
 have hS:∀ (k:Nat) (i:Int),(dO r.words.length q (cY l sw r q))[k]?=some i→∃ x,0≤i∧q[i.toNat]?=some x∧dS r x:=fun k i hk=>by
  have hi:=iL.1 (List.mem_of_getElem? hk);obtain ⟨x,hx,h⟩:=gM hi;exact ⟨x,(iK hi).1,hx,h⟩
 have hlen:(dO r.words.length q (cY l sw r q)).length≤25:=by
  have h1:=(gO (l:=l) (sw:=sw) (r:=r) (q:=q)).length_eq;have h3:=kZ (l:=l) (sw:=sw) (r:=r) (q:=q);omega
 refine iB (σ:=Int×List aT) (dO r.words.length q (cY l sw r q)) (eA r q) (fun s=>(s.1,s.2)) (fun i s=>0≤s.1∧s.1≤r.words.length∧s.2.length≤2*i∧∀ (j:Nat) k x,i≤j→(dO r.words.length q (cY l sw r q))[j]?=some k→q[k.toNat]?=some x→s.1≤x.aI) (fun i x s hi hx hI=>?_) (fun i x s hi hx hI=>?_) (fun s hI=>?_) ⟨by omega,by omega,by simp,fun j k x _ hk hx=>by
   obtain ⟨y,_,hy,h1,_⟩:=hS j k hk
   rw [hx] at hy;rw [Option.some.inj hy];exact h1⟩
 ·obtain ⟨h1,h2,h3,h4⟩:=hI;obtain ⟨y,h0,hy,a,b,c⟩:=hS i x hx;have h5:=h4 i x y (Nat.le_refl _) hx hy;have h7:=e35 (r:=r) (q:=y) ⟨a,b,c⟩ (by omega);have h6:∀ u v:Int,0≤u→u≤v→v≤r.words.length→HU (⟨t.2.2.1,r.out,r.within⟩:aY) u v=some (jZ r u v):=fun u v g1 g2 g3=>by
   rw [ht];exact e34 (r:=r) g1 g2 g3 (by omega)
  unfold qM eA;rw [if_pos (by dsimp only;omega)];simp only [hx,Option.bind_some,hy];rw [bU h0,h7];simp only [Option.bind_some];rw [h6 y.aI (y.aI+y.cut) a (by omega) (by omega),e36 (hp y (List.mem_of_getElem? hy))];by_cases g:s.1 < y.aI
  ·simp only [g,if_true];rw [h6 s.1 y.aI h1 (by omega) (by omega)];simp only [Option.bind_some];rw [bU (by simp;omega)];simp only [Option.bind_some];rw [bU (by simp;omega)]
  simp only [g,if_false,Option.bind_some];rw [bU (by simp;omega)]
 ·obtain ⟨h1,h2,h3,h4⟩:=hI;obtain ⟨y,h0,hy,a,b,c⟩:=hS i x hx;have hl2:=oR r q s x;have hfst:(eA r q s x).1=y.aI+y.cut:=by unfold eA;rw [hy]
  refine ⟨by rw [hfst];omega,by rw [hfst];omega,by omega,fun j k z hj hk hz=>?_⟩;rw [hfst];have hc:=tU (l:=l) (sw:=sw) (r:=r) (q:=q);rw [List.pairwise_iff_getElem] at hc;have hkl:=(List.getElem?_eq_some_iff.1 hk);have hxl:=(List.getElem?_eq_some_iff.1 hx);obtain ⟨gi,ei⟩:=hxl;obtain ⟨gk,ek⟩:=hkl;have:=hc i j gi gk (by omega);rw [ei,ek] at this;exact this y z hy hz
 unfold qM;rw [if_neg (by dsimp only;omega)]
def oG (l:aM) (sw:List bW) (r:aY) (q:List aE):List aT×Int:=if sI l sw r q=0 then (IP r q (dO r.words.length q (cY l sw r q)),0) else ([],sI l sw r q)
theorem zX:∀ (is:List Int) (s:Int×List aT),(∀ i∈is,i∈eL l sw r q)→0≤s.1→s.1≤r.words.length→0≤(is.foldl (eA r q) s).1∧(is.foldl (eA r q) s).1≤r.words.length∧(is.foldl (eA r q) s).2.length≤s.2.length+2*is.length
 | [],s,_,h1,h2=>by simp;exact ⟨h1,h2⟩
 | i::is,s,hm,h1,h2=>by
  obtain ⟨x,hx,a,b,c⟩:=gM (hm i List.mem_cons_self);have hf:(eA r q s i).1=x.aI+x.cut:=by unfold eA;rw [hx]
  have hl:=oR r q s i;have:=zX is (eA r q s i) (fun j hj=>hm j (List.mem_cons_of_mem _ hj)) (by rw [hf];omega) (by rw [hf];omega);rw [List.foldl_cons,List.length_cons];omega
theorem e12 (h:qO l) (hRQ:RQ r q) (hq:∀ x∈q,x.cut≤9223372036854775807):QX l sw r q=some (oG l sw r q):=by
 have hsh:=MU hRQ.words2;have hql:=hRQ.req1;have hwl:=hRQ.words1;have h1:aQ (oL q) (0,([]:List Int))=some (cU q.length):=by
  have:=jH (List.range q.length) (fun (k:Nat)=>(k:Int)) (fun a=>a) (step:=oL q) (fun i x a hi hx ha=>?_) (fun a=>?_)
  ·exact this
  ·simp only [List.length_range] at hi;have hxi:x=i:=by rw [List.getElem?_range hi] at hx;simpa using hx.symm
   subst hxi;unfold oL;rw [if_pos (by simp;omega),bU (by simp;omega)]
  simp only [List.length_range];unfold oL;simp
 unfold QX oG sI;rw [show oL=oL from rfl,show lM=lM from rfl,show jU=jU from rfl,show qK=qK from rfl,show qL=qL from rfl];rw [e48 h,Option.bind_some,e49 hsh];by_cases a:qP l sw=0
 ·simp only [a,if_true];rw [if_neg (by simp),Option.bind_some];by_cases b:dL r=true
  ·simp only [b,if_true];rw [if_neg (by simp)];by_cases c:20 < q.length
   ·rw [if_pos (by omega)];simp [c]
   rw [if_neg (by omega),bU (by omega),h1,Option.bind_some];have hs:=FC (q:=q) (by omega);simp only [c,if_false];have hf:=IN (l:=l) (sw:=sw) hRQ b hq;have h9:=SV (l:=l) (sw:=sw) hf (cU q.length) (by simp [cU]) (⟨fI l,sw⟩,0) rfl;rw [hs];simp only [Option.bind_some];rw [h9];simp only [Option.bind_some];have hso:=xZ (l:=l) (sw:=sw) (r:=r) (q:=q) (by omega) (by omega);rw [show (qV l sw r q).1=eL l sw r q from rfl,hso];simp only [Option.bind_some];rw [BD hwl (by omega) (fun x hx=>Nat.le_trans (hRQ.req2 x hx).1 (by decide)) _ rfl (gO (l:=l) (sw:=sw) (r:=r) (q:=q)).length_eq.symm];have hfi:=zX (l:=l) (sw:=sw) (r:=r) (q:=q) (dO r.words.length q (cY l sw r q)) (0,[]) (fun i hi=>iL.1 hi) (by simp) (by simp);have hle:=kZ (l:=l) (sw:=sw) (r:=r) (q:=q);rw [← (gO (l:=l) (sw:=sw) (r:=r) (q:=q)).length_eq] at hle;unfold IP tT;generalize (dO r.words.length q (cY l sw r q)).foldl (eA r q) (0,[])=s at hfi;obtain ⟨g1,g2,g3⟩:=hfi;simp only [List.length_nil,Option.bind_some] at g3 ⊢;by_cases g:s.1 < (r.words.length:Int)
   ·simp only [g,if_true];have h0:=e34 (r:=r) g1 g2 (Int.le_refl _) (by omega);rw [show (⟨r.words,r.out,r.within⟩:aY)=r from rfl,h0];simp only [Option.bind_some];rw [bU (by simp;omega)];rfl
   simp only [g,if_false,Option.bind_some];rfl
  simp [b]
 simp [a]
end
end T4
namespace T4
open Go Go.Proofs Pk
section
variable {l:aM} {sw:List bW} {r:aY} {q:List aE}
end
end T4
namespace T4
open Go Go.Proofs Pk
end T4
namespace T4
open Go Go.Proofs Pk
def lQ (r:aY) (i j:Int):List aT:=if i < j then [⟨jZ r i j,jZ r i j,-1⟩] else []
def dM (r:aY) (q:List aE):List Int→Int→List aT
 | [],p=>lQ r p r.words.length
 | i::is,p=>match q[i.toNat]? with
  | none=>dM r q is p
  | some x=>lQ r p x.aI++⟨jZ r x.aI (x.aI+x.cut),x.cV,i⟩::dM r q is (x.aI+x.cut)
theorem sN (r:aY) (q:List aE):∀ (is:List Int) (s:Int×List aT),tT r (is.foldl (eA r q) s)=s.2++dM r q is s.1
 | [],s=>by
  unfold dM tT lQ;simp only [List.foldl_nil];by_cases g:s.1 < (r.words.length:Int) <;> simp [g]
 | i::is,s=>by
  rw [List.foldl_cons,sN r q is];unfold eA;rw [dM]
  cases h:q[i.toNat]? with
  | none=>rfl
  | some x =>
   dsimp only;unfold lQ;by_cases g:s.1 < x.aI <;> simp [g]
theorem IQ (r:aY) (q:List aE) (is:List Int):IP r q is=dM r q is 0:=by
 unfold IP;rw [sN];rfl
end T4
namespace T4
open Go Go.Proofs Pk
theorem iA (l:aM) (a b:List aF):eE l (a++b)=eE l a++eE l b:=by
 unfold eE;rw [List.map_append,List.filter_append]
theorem jS (sw:List bW):∀ a:List aW,dZ sw a a=true
 | []=>rfl
 | x::a=>by
  show (fD sw x x&&dZ sw a a)=true;rw [jS sw a];simp [fD]
theorem kU {sw:List bW}:∀ {a b c d:List aW},dZ sw a b=true→dZ sw c d=true→dZ sw (a++c) (b++d)=true
 | [],[],_,_,_,h=>h
 | x::a,y::b,c,d,h1,h2=>by
  replace h1:(fD sw x y&&dZ sw a b)=true:=h1
  rw [Bool.and_eq_true] at h1;show (fD sw x y&&dZ sw (a++c) (b++d))=true;rw [h1.1,kU h1.2 h2];rfl
 | [],_::_,_,_,h,_=>by cases h
 | _::_,[],_,_,h,_=>by cases h
end T4
namespace T4
open Go Go.Proofs Pk
structure FG (q t:List aE) (w:Int→Int):Prop where
 len:t.length=q.length
 ok:∀ i,kR t i→kR q (w i)
 get:∀ i,kR t i→t[i.toNat]?=q[(w i).toNat]?
 inj:∀ i j,kR t i→kR t j→w i=w j→i=j
 one:∀ i j x y,kR q i→kR q j→q[i.toNat]?=some x→q[j.toNat]?=some y→x.minute=y.minute→x.by_=y.by_→i=j
section
variable {l:aM} {sw:List bW} {r:aY} {q t:List aE} {w:Int→Int}
theorem MZ {q:List aE} {i:Int} (h:kR q i):∃ x,q[i.toNat]?=some x:=⟨_,List.getElem?_eq_getElem h.2⟩
structure NA (q t:List aE) (w:Int→Int) (a b:DS):Prop where
 which:a.1=b.1.map w
 acc:a.2.1=b.2.1
 xD:a.2.2.length=q.length
 len2:b.2.2.length=t.length
 err:∀ i,kR t i→b.2.2[i.toNat]?=a.2.2[(w i).toNat]?
theorem NA.step (H:FG q t w) {a b:DS} (h:NA q t w a b) {m:Int} (hm:kR t m):NA q t w (dT l sw r q a (w m)) (dT l sw r t b m):=by
 obtain ⟨x,hx⟩:=MZ hm;obtain ⟨h1,h2,h3,h4,h5⟩:=h;have hset:∀ (v:Int) (i:Int),kR t i→(b.2.2.set m.toNat v)[i.toNat]?=(a.2.2.set (w m).toNat v)[(w i).toNat]?:=by
  intro v i hi;have hwi:=H.ok i hi;have hwm:=H.ok m hm;by_cases e:i=m
  ·subst e;rw [List.getElem?_set_self (by rw [h4];exact hi.2),List.getElem?_set_self (by rw [h3];exact hwi.2)]
  rw [List.getElem?_set_ne,List.getElem?_set_ne,h5 i hi]
  ·intro e2;exact e (H.inj i m hi hm (by have:=hwi.1;have:=hwm.1;omega))
  intro e2;exact e (by have:=hi.1;have:=hm.1;omega)
 unfold dT;rw [← H.get m hm,hx];dsimp only;rw [h2]
 split
 ·exact ⟨by rw [h1];simp,rfl,by simp [h3],by simp [h4],fun i hi=>hset _ i hi⟩
 exact ⟨h1,rfl,by simp [h3],by simp [h4],fun i hi=>hset _ i hi⟩
theorem NA.all (H:FG q t w):∀ (o:List Int) (a b:DS),(∀ m∈o,kR t m)→NA q t w a b→NA q t w ((o.map w).foldl (dT l sw r q) a) (o.foldl (dT l sw r t) b)
 | [],_,_,_,h=>h
 | m::o,a,b,ho,h=>by
  rw [List.map_cons,List.foldl_cons,List.foldl_cons];exact NA.all H o _ _ (fun k hk=>ho k (List.mem_cons_of_mem _ hk)) (h.step H (ho m List.mem_cons_self))
end
end T4
namespace T4
open Go Go.Proofs Pk
section
variable {l:aM} {sw:List bW} {r:aY} {q:List aE}
theorem qY {x:aE} (h:kN l sw r x=0):dZ sw (eE l (jZ r x.aI (x.aI+x.cut))) (eE l x.cV)=true∧gI x=true:=by
 rw [kP] at h;by_cases a:dS r x
 ·rw [if_neg (fun h=>h a)] at h;cases b:gI x
  ·rw [if_pos b] at h;omega
  rw [if_neg (by simp [b])] at h;cases c:wF r x
  ·rw [if_pos c] at h;omega
  rw [if_neg (by simp [c])] at h;cases d:In x.minute r.out (r.out+r.within)
  ·rw [if_pos d] at h;omega
  rw [if_neg (by simp [d])] at h;cases e:wG l sw r x
  ·rw [e] at h;simp at h
  exact ⟨e,rfl⟩
 rw [if_pos a] at h;omega
theorem oS:∀ (is:List Int) (p:Int),(∀ i∈is,i∈eL l sw r q)→dZ sw (eE l ((dM r q is p).flatMap (·.dP))) (eE l ((dM r q is p).flatMap (·.eC)))=true
 | [],p,_=>by
  unfold dM lQ
  split <;> simp [jS]
 | i::is,p,hi=>by
  have ho:=iK (hi i List.mem_cons_self);have hx:q[i.toNat]?=some (q[i.toNat]'ho.2):=List.getElem?_eq_getElem ho.2;generalize q[i.toNat]'ho.2=x at hx;have ha:=qY (kT (hi i List.mem_cons_self) hx);have ih:=oS is (x.aI+x.cut) (fun j hj=>hi j (List.mem_cons_of_mem _ hj));rw [dM,hx];dsimp only;rw [List.flatMap_append,List.flatMap_append,List.flatMap_cons,List.flatMap_cons,iA,iA,iA,iA];refine kU ?_ (kU ha.1 ih);unfold lQ
  split <;> simp [jS]
theorem BE (hr:dL r=true):∀ (is:List Int) (p:Int),(∀ i∈is,i∈eL l sw r q)→∀ s∈dM r q is p,(∀ t∈s.dP,gA t=true)∧(∀ t∈s.eC,gA t=true)∧s.dP.length≤r.words.length∧(s.eC.length≤r.words.length∨s.eC.length≤8):=by
 have hold:∀ (i j:Int),∀ t∈jZ r i j,gA t=true:=fun i j t ht=>by
  obtain ⟨x,hx,rfl⟩:=wD ht;unfold dL at hr;simp only [Bool.and_eq_true,List.all_eq_true] at hr;have:=hr.1.1.1 x hx;unfold iZ at this;rw [Bool.and_eq_true] at this;exact this.1
 have hkeep:∀ (i j:Int),∀ s∈lQ r i j,(∀ t∈s.dP,gA t=true)∧(∀ t∈s.eC,gA t=true)∧s.dP.length≤r.words.length∧(s.eC.length≤r.words.length∨s.eC.length≤8):=fun i j s hs=>by
  unfold lQ at hs
  split at hs
  ·rw [List.mem_singleton.1 hs];exact ⟨hold i j,hold i j,nE r i j,.inl (nE r i j)⟩
  cases hs
 intro is
 induction is with
 | nil=>intro p _ s hs;unfold dM at hs;exact hkeep _ _ s hs
 | cons i is ih =>
  intro p hi s hs;have ho:=iK (hi i List.mem_cons_self);have hx:q[i.toNat]?=some (q[i.toNat]'ho.2):=List.getElem?_eq_getElem ho.2;generalize q[i.toNat]'ho.2=x at hx;have ha:=(qY (kT (hi i List.mem_cons_self) hx)).2;rw [dM,hx] at hs;dsimp only at hs;rcases List.mem_append.1 hs with h | h
  ·exact hkeep _ _ s h
  rcases List.mem_cons.1 h with rfl | h
  ·unfold gI at ha;simp only [Bool.and_eq_true,List.all_eq_true,decide_eq_true_eq] at ha;exact ⟨hold _ _,ha.1.1.2,nE _ _ _,.inr (by dsimp only;omega)⟩
  exact ih _ (fun j hj=>hi j (List.mem_cons_of_mem _ hj)) s h
theorem sP (r:aY) (i j:Int):(lQ r i j).length≤1:=by unfold lQ;split <;> simp
theorem tV (r:aY) (q:List aE):∀ (is:List Int) (p:Int),(dM r q is p).length≤2*is.length+1
 | [],p=>by unfold dM;have:=sP r p r.words.length;omega
 | i::is,p=>by
  rw [dM]
  cases q[i.toNat]? with
  | none=>have:=tV r q is p;simp only [List.length_cons];omega
  | some x =>
   have:=tV r q is (x.aI+x.cut);have:=sP r p x.aI;simp only [List.length_append,List.length_cons];omega
theorem wJ:∀ (v:List aT) (a b:List aF),v.foldl (fun (s:List aF×List aF) x=>(s.1++x.eC,s.2++x.dP)) (a,b)=(a++v.flatMap (·.eC),b++v.flatMap (·.dP))
 | [],a,b=>by simp
 | x::v,a,b=>by rw [List.foldl_cons,wJ v];simp
end
end T4
set_option maxHeartbeats 4000000
namespace T4
open Go Go.Proofs Pk
def T {α:Type} (o:Option α) (P:α→Prop):Prop:=∃ v,o=some v∧P v
theorem T.mk {α:Type} {v:α} {P:α→Prop} (h:P v):T (some v) P:=⟨v,rfl,h⟩
theorem T.bd {α β:Type} {o:Option α} {f:α→Option β} {Q:α→Prop} {P:β→Prop} (h:T o Q) (k:∀ v,Q v→T (f v) P):T (o.bind f) P:=by
 obtain ⟨v,rfl,hv⟩:=h;exact k v hv
theorem T.mono {α:Type} {o:Option α} {Q P:α→Prop} (h:T o Q) (k:∀ v,Q v→P v):T o P:=by
 obtain ⟨v,h1,hv⟩:=h;exact ⟨v,h1,k v hv⟩
theorem T.ck {α:Type} {c:Prop} [Decidable c] {o:Option α} {P:α→Prop} (hc:c) (h:T o P):T (cQ c o) P:=by
 unfold cQ;rw [if_pos hc];exact h
theorem T.ie {α:Type} {c:Prop} [Decidable c] {a b:Option α} {P:α→Prop} (h1:c→T a P) (h2:¬c→T b P):T (if c then a else b) P:=by
 by_cases h:c
 ·rw [if_pos h];exact h1 h
 rw [if_neg h];exact h2 h
theorem T.at {α:Type} {l:List α} {i:Nat} (h:i < l.length):T (l[i]?) (fun x=>l[i]?=some x):=⟨l[i],List.getElem?_eq_getElem h,List.getElem?_eq_getElem h⟩
theorem T.lp {σ ε:Type} {step:σ→Option (σ⊕ε)} (I:σ→Prop) (μ:σ→Nat) {Q:ε→Prop} (h:∀ s,I s→T (step s) (fun r=>match r with | .inl s'=>I s'∧μ s' < μ s | .inr e=>Q e)) {s0:σ} (h0:I s0):T (aQ step s0) Q:=by
 have:∀ n s,μ s=n→I s→T (aQ step s) Q:=by
  intro n
  induction n using Nat.strongRecOn with
  | _ n ih =>
   intro s hn hI;obtain ⟨v,h1,h2⟩:=h s hI
   cases v with
   | inl s'=>rw [eH h1];exact ih (μ s') (by have:=h2.2;omega) s' rfl h2.1
   | inr e=>rw [cN h1];exact ⟨e,rfl,h2⟩
 exact this _ s0 rfl h0
theorem T.ix {σ ε:Type} {step:σ→Option (σ⊕ε)} (n:Nat) (ix:σ→Nat) (I:σ→Prop) {Q:ε→Prop} (h:∀ s,I s→ix s≤n→T (step s) (fun r=>match r with | .inl s'=>I s'∧ix s'=ix s+1∧ix s < n | .inr e=>Q e)) {s0:σ} (h0:I s0) (h1:ix s0≤n):T (aQ step s0) Q :=
 T.lp (fun s=>I s∧ix s≤n) (fun s=>n - ix s) (fun s hs=>(h s hs.1 hs.2).mono fun v hv=>by
  cases v with
  | inl s'=>have:=hv.2;exact ⟨⟨hv.1,by omega⟩,by omega⟩
  | inr e=>exact hv) ⟨h0,h1⟩
theorem T.eq {α:Type} {o:Option α} {v:α} {P:α→Prop} (h:o=some v) (hp:P v):T o P:=⟨v,h,hp⟩
theorem T.ok {α:Type} {o:Option α} {v:α} (h:o=some v):T o (fun r=>r=v):=⟨v,h,rfl⟩
theorem SW {α:Type} (l:List α) (f:α→Option Bool) (p:α→Bool) (hf:∀ x∈l,f x=some (p x)) (step:Nat→Option (Nat⊕(Unit⊕Int)))
  (h:∀ i,step i=if (i:Int) < (l.length:Int) then (l[i]?).bind fun x=>(f x).bind fun r=>if r then some (.inr (.inr (i:Int))) else some (.inl (i+1)) else some (.inr (.inl ()))) :
  T (aQ step 0) (fun e=>(∃ z:Nat,e=.inr (z:Int)∧l.any p=true)∨(e=.inl ()∧l.any p=false)):=by
 refine T.ix l.length id (fun i=>∀ j x,j < i→l[j]?=some x→p x=false) (fun i hI hi=>?_) (fun j x hj=>by simp at hj) (Nat.zero_le _);rw [h];refine T.ie (fun c=>T.bd (T.at (by omega)) fun x hx=>T.bd (T.ok (hf x (List.mem_of_getElem? hx))) fun r hr=>?_) (fun c=>.mk (.inr ⟨rfl,?_⟩))
 ·subst hr;refine T.ie (fun a=>.mk (.inl ⟨i,rfl,List.any_eq_true.2 ⟨x,List.mem_of_getElem? hx,a⟩⟩)) fun a=>.mk ⟨fun j y hj hy=>?_,rfl,by simp only [id];omega⟩;by_cases e:j=i
  ·subst e;rw [hx] at hy;cases hy;simpa using a
  exact hI j y (by have:j < i+1:=hj;omega) hy
 rw [List.any_eq_false];intro x hx;obtain ⟨j,hj,e⟩:=List.getElem_of_mem hx;have:=hI j x (by simp only [id] at hi ⊢;omega) (by rw [List.getElem?_eq_getElem hj,e]);simp [this]
theorem nn0 (z:Nat):decide (0≤(z:Int))=true:=decide_eq_true (Int.natCast_nonneg z)
structure OkS (s:aA):Prop where
 few:s.marks.length≤12
 rise:∀ i a b,s.marks[i]?=some a→s.marks[i+1]?=some b→a < b
 mark:∀ m∈s.marks,0≤m∧m≤999
 size:1≤s.size∧s.size≤200
def yA (l:List aA):Prop:=l.length≤20∧∀ s∈l,OkS s
theorem e59 (l:List aA) (f:aA→Option Bool) (p:aA→Bool) (hf:∀ x∈l,f x=some (p x)):FQ l f=some (l.all p):=by
 obtain ⟨r,h1,h2⟩:=SW l (fun x=>vM x f) (fun x=>!p x) (fun x hx=>by unfold vM;rw [hf x hx];rfl) (xH l (fun x=>vM x f)) (fun i=>rfl);unfold FQ HN HM;rw [h1,List.all_eq_not_any_not];rcases h2 with ⟨z,rfl,h2⟩ | ⟨rfl,h2⟩ <;> simp [h2]
theorem aA6 (l:List Int) (f:Int→Option Bool) (p:Int→Bool) (hf:∀ x∈l,f x=some (p x)):AO l f=some (l.all p):=by
 obtain ⟨r,h1,h2⟩:=SW l (fun x=>DI x f) (fun x=>!p x) (fun x hx=>by unfold DI;rw [hf x hx];rfl) (xI l f) (fun i=>rfl);unfold AO;rw [h1,List.all_eq_not_any_not];rcases h2 with ⟨z,rfl,h2⟩ | ⟨rfl,h2⟩ <;> simp [h2]
theorem e106 (n a b:Int):AP n a b=some (decide (a≤n∧n≤b)):=by
 unfold AP;by_cases h:a≤n <;> simp [h]
theorem SX (n a b:Int):NN n a b=some (decide (a≤n∧n≤b)):=by
 unfold NN;by_cases h:a≤n <;> simp [h]
theorem aA7 (n:Int):vN n=some (decide (0≤n∧n≤999)):=by unfold vN;rw [e106];rfl
theorem e103 {l:List Int} (h:∀ i a b,l[i]?=some a→l[i+1]?=some b→a < b):DH l=some true:=by
 obtain ⟨e,h1,h2⟩:T (aQ (tL l) 0) (fun e=>e=.inl ()):=by
  refine T.ix l.length id (fun _=>True) (fun i _ hi=>?_) trivial (Nat.zero_le _);unfold tL;refine T.ie (fun c=>T.bd (Q:=fun r=>r=false) (T.ie (fun c0=>T.bd (T.at (by simp only [id] at *;omega)) fun x hx=>T.bd (T.at (by simp only [id] at *;omega)) fun y hy=>.mk ?_) fun c0=>.mk rfl) fun r hr=>?_) fun c=>.mk rfl
  ·have:l[((i:Int) - 1).toNat+1]?=some x:=by rw [show ((i:Int) - 1).toNat+1=i by omega];exact hx
   have:=h _ _ _ hy this;rw [decide_eq_false_iff_not];omega
  subst hr;exact .mk ⟨trivial,rfl,by simp only [id];omega⟩
 unfold DH;rw [h1,h2];rfl
theorem e39 {l r:List aA} (hl:yA l) (hr:yA r):NO l r=some 0:=by
 have h1:∀ x:List aA,yA x→FQ x FP=some true:=fun x hx=>by
  rw [e59 x FP (fun s=>decide ((s.marks.length:Int)≤12)) (fun s _=>rfl)];rw [List.all_eq_true.2];intro s hs;have:=(hx.2 s hs).few;simpa using by omega
 have h2:∀ x:List aA,yA x→FQ x DL=some true:=fun x hx=>by
  rw [e59 x DL (fun s=>true) (fun s hs=>?_)]
  ·simp
  have ho:=hx.2 s hs;have h3:AO s.marks vN=some true:=by
   rw [aA6 _ _ _ (fun m _=>aA7 m),List.all_eq_true.2];intro m hm;exact decide_eq_true (ho.mark m hm)
  unfold DL;rw [e103 ho.rise];simp only [Option.bind_some,if_true];rw [h3];simp only [Option.bind_some,if_true];rw [e106];simp [ho.size]
 have:=hl.1;have:=hr.1;unfold NO;rw [if_neg (by omega),if_neg (by omega),h1 l hl,h1 r hr,h2 l hl,h2 r hr];rfl
theorem t28 (l:List Int):T (PU l) (fun r=>r=true→∀ i a b,l[i]?=some a→l[i+1]?=some b→a < b):=by
 unfold PU;refine T.bd (Q:=fun e=>e=.inr false∨(e=.inl ()∧∀ i a b,l[i]?=some a→l[i+1]?=some b→a < b)) (T.lp (fun i=>1≤i∧∀ k a b,k+1 < i→l[k]?=some a→l[k+1]?=some b→a < b) (fun i=>l.length - i) (fun i hI=>?_) ⟨Nat.le_refl _,fun k _ _ hk=>by omega⟩) ?_
 ·unfold DG;have h1:=hI.1;refine T.ie (fun c=>T.bd (T.at (by omega)) fun x hx=>T.ck (by omega) <| T.bd (T.at (by omega)) fun y hy=>T.ie (fun d=>.mk (.inl rfl)) fun d=>.mk ⟨⟨by omega,fun k a b hk ha hb=>?_⟩,by omega⟩) fun c=>.mk (.inr ⟨rfl,fun k a b ha hb=>hI.2 k a b (by have:=(List.getElem?_eq_some_iff.1 hb).1;omega) ha hb⟩);by_cases e:k+1=i
  ·rw [show ((i:Int) - 1).toNat=k by omega,ha] at hy;rw [← e,hb] at hx;cases hx;cases hy;omega
  exact hI.2 k a b (by omega) ha hb
 rintro e (rfl | ⟨rfl,h⟩)
 ·exact .mk fun h=>by cases h
 exact .mk fun _=>h
theorem t10 (right:List aA) (hr:right.length≤22):T (PV [] right) (fun r=>r=0→yA right):=by
 unfold PV;have e0:(([]:List aA)++[]++right)=right:=by simp
 refine T.bd (Q:=fun b=>b=decide (20 < (right.length:Int))) (T.ie (fun c=>by simp at c) fun _=>.mk rfl) fun b hb=>?_;subst hb;refine T.ie (fun c=>.mk fun h=>by cases h) fun c=>?_;have hlen:right.length≤20:=by simp at c;omega
 refine T.ck (by simp) <| T.ck (by simp;omega) ?_;have ha:T (aQ (zA [] right) 0) (fun e=>(∃ z,e=.inr z∧z=3)∨(e=.inl ()∧∀ s∈right,s.marks.length≤12)):=by
  refine T.ix right.length id (fun i=>∀ (j:Nat) s,j < i→right[j]?=some s→s.marks.length≤12) (fun i hI hi=>?_) (fun j _ hj=>by simp at hj) (Nat.zero_le _);unfold zA;rw [e0];refine T.ie (fun c=>T.bd (T.at (by omega)) fun x hx=>T.ie (fun d=>.mk (.inl ⟨3,rfl,rfl⟩)) fun d=>.mk ⟨fun j s hj hs=>?_,rfl,by simp only [id];omega⟩) fun c=>.mk (.inr ⟨rfl,fun s hs=>?_⟩)
  ·by_cases e:j=i
   ·subst e;rw [hx] at hs;cases hs;omega
   exact hI j s (by omega) hs
  obtain ⟨j,hj,rfl⟩:=List.getElem_of_mem hs;exact hI j _ (by simp only [id] at hi;omega) (List.getElem?_eq_getElem hj)
 have h3:∀ (i:Nat) (x:aA),right[i]?=some x→T (aQ (zB [] right i) 0) (fun e=>(∃ z,e=.inr (.inr (.inr z))∧z=1)∨(e=.inl ()∧∀ m∈x.marks,0≤m∧m≤999)):=by
  intro i x hx;refine T.ix x.marks.length id (fun k=>∀ (j:Nat) m,j < k→x.marks[j]?=some m→0≤m∧m≤999) (fun k hI hk=>?_) (fun j _ hj=>by simp at hj) (Nat.zero_le _);unfold zB;rw [e0,hx,Option.bind_some];refine T.ie (fun c=>T.bd (T.at (by omega)) fun m hm=>?_) fun c=>.mk (.inr ⟨rfl,fun s hs=>?_⟩)
  ·rw [SX,Option.bind_some];refine T.ie (fun d=>.mk ⟨fun j n hj hn=>?_,rfl,by simp only [id];omega⟩) fun d=>.mk (.inl ⟨1,rfl,rfl⟩);by_cases e:j=k
   ·subst e;rw [hm] at hn;cases hn;simpa using d
   exact hI j n (by omega) hn
  obtain ⟨j,hj,rfl⟩:=List.getElem_of_mem hs;exact hI j _ (by simp only [id] at hk;omega) (List.getElem?_eq_getElem hj)
 have hb:T (aQ (zC [] right) 0) (fun e=>(∃ z,e=.inr z∧z=1)∨(e=.inl ()∧∀ s∈right,(∀ m∈s.marks,0≤m∧m≤999)∧(∀ i a b,s.marks[i]?=some a→s.marks[i+1]?=some b→a < b)∧1≤s.size∧s.size≤200)):=by
  refine T.ix right.length id (fun i=>∀ (j:Nat) s,j < i→right[j]?=some s→(∀ m∈s.marks,0≤m∧m≤999)∧(∀ i a b,s.marks[i]?=some a→s.marks[i+1]?=some b→a < b)∧1≤s.size∧s.size≤200) (fun i hI hi=>?_) (fun j _ hj=>by simp at hj) (Nat.zero_le _);unfold zC;rw [e0];refine T.ie (fun c=>?_) fun c=>.mk (.inr ⟨rfl,fun s hs=>?_⟩)
  ·obtain ⟨x,hx,_⟩:T (right[i]?) (fun x=>right[i]?=some x):=T.at (by omega);refine T.bd (h3 i x hx) fun e he=>?_;rcases he with ⟨z,rfl,rfl⟩ | ⟨rfl,hm⟩
   ·exact .mk (.inl ⟨1,rfl,rfl⟩)
   dsimp only;rw [hx,Option.bind_some];refine T.bd (Q:=fun b=>b=false→(∀ i a b,x.marks[i]?=some a→x.marks[i+1]?=some b→a < b)∧1≤x.size∧x.size≤200) (T.bd (t28 x.marks) fun r hr=>T.ie (fun d=>?_) fun d=>.mk fun h=>by cases h) fun b hb=>T.ie (fun d=>.mk (.inl ⟨1,rfl,rfl⟩)) fun d=>.mk ⟨fun j s hj hs=>?_,rfl,by simp only [id];omega⟩
   ·rw [SX,Option.bind_some];exact .mk fun h=>⟨hr d,by simpa using h⟩
   by_cases e:j=i
   ·subst e;rw [hx] at hs;cases hs;exact ⟨hm,hb (by simpa using d)⟩
   exact hI j s (by omega) hs
  obtain ⟨j,hj,rfl⟩:=List.getElem_of_mem hs;exact hI j _ (by simp only [id] at hi;omega) (List.getElem?_eq_getElem hj)
 refine T.bd ha fun e he=>?_;rcases he with ⟨z,rfl,rfl⟩ | ⟨rfl,hf⟩
 ·exact .mk fun h=>by cases h
 refine T.bd hb fun e he=>?_;rcases he with ⟨z,rfl,rfl⟩ | ⟨rfl,hg⟩
 ·exact .mk fun h=>by cases h
 exact .mk fun _=>⟨hlen,fun s hs=>⟨hf s hs,(hg s hs).2.1,(hg s hs).1,(hg s hs).2.2⟩⟩
theorem t9 (right:List aA):T (m9 [] right) (fun r=>r=true→right.length≤22):=by
 unfold m9;have h1:aQ (HL []) 0=some (.inl ()):=cN (by unfold HL;rw [if_neg (by simp)]);rw [h1,Option.bind_some];dsimp only;refine T.bd (Q:=fun e=>e=.inr false∨e=.inl ()) (T.ix right.length id (fun _=>True) (fun i _ hi=>?_) trivial (Nat.zero_le _)) fun e he=>?_
 ·unfold LI;exact T.ie (fun c=>T.bd (T.at (by omega)) fun x _=>T.ie (fun _=>.mk (.inl rfl)) fun _=>.mk ⟨trivial,rfl,by simp only [id];omega⟩) fun _=>.mk (.inr rfl)
 rcases he with rfl | rfl
 ·exact .mk fun h=>by cases h
 dsimp only;rw [if_pos (by simp),Option.bind_some];exact .mk fun h=>by simp at h;omega
end T4
set_option maxHeartbeats 4000000
namespace T4
open Go Go.Proofs Pk
theorem nJ {κ α:Type} [DecidableEq κ] (k k':κ) (y:α):∀ t:List (κ×α),dR (put t k y) k'=if k'=k then some y else dR t k'
 | []=>by simp only [put,dR]
 | q::t=>by
  have ih:=nJ k k' y t;simp only [put];by_cases h:k=q.1
  ·rw [if_pos h];simp only [dR];subst h;by_cases h2:k'=q.1 <;> simp [h2]
  rw [if_neg h];simp only [dR,ih];by_cases h2:k'=q.1
  ·have:¬k'=k:=fun e=>h (e.symm.trans h2)
   simp [h2,this,Ne.symm h]
  simp [h2]
theorem T.rc {β:Type} {F:Nat→Option β} {P:β→Prop} (h:T (F 100000) P):T (nQ F) P:=by
 obtain ⟨v,h1,hv⟩:=h;exact ⟨v,by unfold nQ;rw [h1];rfl,hv⟩
def stp:List bN:=[⟨2,1⟩,⟨1,2⟩,⟨1,1⟩,⟨1,0⟩,⟨0,1⟩]
def go (p:bG) (s:bN):bG:=⟨p.left+s.left,p.right+s.right⟩
def nl (x:two):Int:=x.left.list.length
def nr (x:two):Int:=x.right.list.length
def jB (x:two) (p:bG) (s:bN):Prop:=p.left+s.left≤nl x∧p.right+s.right≤nr x
instance (x:two) (p:bG) (s:bN):Decidable (jB x p s):=by unfold jB;exact inferInstance
def eX (x:two) (p:bG):Prop:=0≤p.left∧p.left≤nl x∧0≤p.right∧p.right≤nr x
def gP (x:two):bG:=⟨nl x,nr x⟩
def rem (x:two) (p:bG):Nat:=(nl x - p.left).toNat+(nr x - p.right).toNat
structure wU (x:two):Prop where
 left:yA x.left.list
 right:yA x.right.list
theorem wU.nl {x:two} (h:wU x):0≤nl x∧nl x≤20:=by have:=h.left.1;unfold T4.nl;omega
theorem wU.nr {x:two} (h:wU x):0≤nr x∧nr x≤20:=by have:=h.right.1;unfold T4.nr;omega
theorem oH {s:bN} (h:s∈stp):0≤s.left∧s.left≤2∧0≤s.right∧s.right≤2∧1≤s.left+s.right:=by
 simp only [stp,List.mem_cons,List.not_mem_nil,or_false] at h;rcases h with rfl | rfl | rfl | rfl | rfl <;> decide
theorem lS {x:two} {p:bG} {s:bN} (hs:s∈stp) (hp:eX x p) (hv:jB x p s):eX x (go p s)∧rem x (go p s) < rem x p:=by
 have:=oH hs;unfold eX jB go rem at *;dsimp only;omega
theorem yB {x:two} {p:bG} (hx:wU x) (hp:eX x p):rem x p≤40:=by
 have:=hx.nl;have:=hx.nr;unfold eX rem at *;omega
theorem tW {x:two} {p:bG} (hp:eX x p):rem x p=0↔p=gP x:=by
 unfold eX rem gP at *;constructor
 ·intro h;cases p;simp only [bG.mk.injEq];dsimp only at *;omega
 intro h;rw [h];dsimp only;omega
theorem NB {t:text} {a b:Int} (ht:yA t.list) (h:0≤a∧a≤b∧b≤t.list.length):T (LJ t a b) fun s=>s.text.list.length=b.toNat - a.toNat:=by
 unfold LJ;refine T.ck h.1 <| T.ck (by omega) <| T.ck (by omega) <| T.bd (Q:=fun _=>True) (T.ix (((t.list.drop a.toNat).take (b.toNat - a.toNat)).length) (·.1) (fun _=>True) (fun s _ hi=>?_) trivial (Nat.zero_le _)) fun _ _=>.mk (by dsimp only;rw [List.length_take,List.length_drop];omega);unfold DO;refine T.ie (fun c=>T.bd (T.at (by omega)) fun x hx=>T.bd (Q:=fun _=>True) (T.ix x.marks.length (·.1) (fun _=>True) (fun k _ hk=>?_) trivial (Nat.zero_le _)) fun _ _=>.mk ⟨trivial,rfl,by omega⟩) fun _=>.mk trivial;unfold DN;refine T.ie (fun c=>T.bd (T.at (by omega)) fun m hm=>?_) fun _=>.mk trivial;have:=(ht.2 x (List.mem_of_mem_drop (List.mem_of_mem_take (List.mem_of_getElem? hx)))).mark m (List.mem_of_getElem? hm);exact T.ck this.1 <| T.ck (by omega) <| .mk ⟨trivial,rfl,by omega⟩
theorem t44 (a b:fR):T (NQ a b) fun n=>(0≤n∧n≤1000)∧(a.marks=b.marks→n=0):=by
 unfold NQ;refine T.bd (Q:=fun n:Nat=>n≤1000∧(a.marks=b.marks→n=0)) (T.ix 1000 (·.2) (fun s=>s.1≤s.2∧(a.marks=b.marks→s.1=0)) (fun s hI hi=>?_) ⟨Nat.le_refl _,fun _=>rfl⟩ (Nat.zero_le _)) fun n hn=>.mk ⟨by omega,fun h=>by have:=hn.2 h;omega⟩;unfold DP;refine T.ie (fun c=>T.ck c <| T.bd (Q:=fun n=>n≤s.2+1∧(a.marks=b.marks→n=0)) (T.ie (fun _=>.mk ⟨by omega,hI.2⟩) fun d=>T.ck (by omega) <| .mk ⟨by omega,fun e=>absurd (by rw [e];simp) d⟩) fun n hn=>.mk ⟨hn,rfl,by omega⟩) fun c=>.mk ⟨by omega,hI.2⟩
theorem t43 {x:two} {p:bG} {s:bN} (hx:wU x) (hs:s∈stp) (hp:eX x p) (hv:jB x p s):T (FR x p s) fun _=>True:=by
 have:=oH hs;have:=hx.nl;have:=hx.nr;unfold eX jB nl nr at *;unfold FR;exact T.ck (by omega) <| T.bd (NB hx.left (by omega)) fun _ _=>T.ck (by omega) <| T.bd (NB hx.right (by omega)) fun _ _=>.mk trivial
theorem t65 {x:two} {p:bG} {s:bN} (hx:wU x) (hs:s∈stp) (hp:eX x p) (hv:jB x p s):T (BF x p s) fun n=>0≤n∧n≤2004:=by
 unfold BF;refine T.bd (t43 hx hs hp hv) fun r _=>T.bd (Q:=fun n=>0≤n∧n≤2000) ?_ fun n hn=>T.ck (by omega) <| T.bd (Q:=fun n:Nat=>n≤3) ?_ fun m hm=>T.ck (by omega) <| T.bd (Q:=fun n:Nat=>n≤1) ?_ fun k hk=>T.ck (by omega) <| .mk (by omega)
 ·unfold AQ;exact T.bd (t44 _ _) fun n hn=>T.ck (by have:=hn.1;omega) <| .mk (by have:=hn.1;omega)
 ·split
  ·exact .mk (by omega)
  split <;> exact .mk (by omega)
 split
 ·exact .mk (by omega)
 split <;> exact .mk (by omega)
noncomputable def mJ (x:two) (p:bG) (s:bN):Int:=(BF x p s).getD 0
theorem e65 {x:two} {p:bG} {s:bN} (hx:wU x) (hs:s∈stp) (hp:eX x p) (hv:jB x p s):BF x p s=some (mJ x p s)∧0≤mJ x p s∧mJ x p s≤2004:=by
 obtain ⟨n,h1,h2⟩:=t65 hx hs hp hv;unfold mJ;rw [h1];exact ⟨rfl,h2⟩
theorem e64 (a b:Int):QC [a,b]=some (min a b):=by
 unfold QC HO;rw [if_neg (by simp)]
 have:aQ (qF [a,b]) (1,a)=some (min a b):=by
  rw [eH (s':=(2,min a b)) (by unfold qF;simp),cN (e:=min a b) (by unfold qF;simp)]
 simp [this]
def tX (v:bN→Prop) [DecidablePred v] (g:bN→Int) (l:List bN) (n:Int):Int:=l.foldl (fun n s=>if v s then min n (g s) else n) n
theorem jK {v:bN→Prop} [DecidablePred v] {g:bN→Int}:∀ (l:List bN) (n:Int),(tX v g l n≤n∧∀ s∈l,v s→tX v g l n≤g s)∧(tX v g l n=n∨∃ s∈l,v s∧tX v g l n=g s)
 | [],n=>⟨⟨Int.le_refl _,fun s h=>by cases h⟩,.inl rfl⟩
 | a::l,n=>by
  unfold tX;rw [List.foldl_cons];by_cases h:v a
  ·rw [if_pos h];obtain ⟨⟨h1,h2⟩,h3⟩:=jK (v:=v) (g:=g) l (min n (g a));unfold tX at h1 h2 h3;refine ⟨⟨by omega,fun s hs hv=>?_⟩,?_⟩
   ·rcases List.mem_cons.1 hs with rfl | hs
    ·omega
    exact h2 s hs hv
   rcases h3 with h3 | ⟨s,hs,hv,e⟩
   ·rcases Int.le_total n (g a) with h4 | h4
    ·left;rw [h3];omega
    right;exact ⟨a,List.mem_cons_self,h,by rw [h3];omega⟩
   exact .inr ⟨s,List.mem_cons_of_mem _ hs,hv,e⟩
  rw [if_neg h];obtain ⟨⟨h1,h2⟩,h3⟩:=jK (v:=v) (g:=g) l n;unfold tX at h1 h2 h3;refine ⟨⟨h1,fun s hs hv=>?_⟩,?_⟩
  ·rcases List.mem_cons.1 hs with rfl | hs
   ·exact absurd hv h
   exact h2 s hs hv
  rcases h3 with h3 | ⟨s,hs,hv,e⟩
  ·exact .inl h3
  exact .inr ⟨s,List.mem_cons_of_mem _ hs,hv,e⟩
theorem tY {v:bN→Prop} [DecidablePred v] {g h:bN→Int}:∀ (l:List bN) (n:Int),(∀ s∈l,v s→g s=h s)→tX v g l n=tX v h l n
 | [],_,_=>rfl
 | a::l,n,e=>by
  unfold tX;rw [List.foldl_cons,List.foldl_cons];have ih:=fun m=>tY (v:=v) l m fun s hs=>e s (List.mem_cons_of_mem _ hs);unfold tX at ih;by_cases c:v a
  ·rw [if_pos c,if_pos c,e a List.mem_cons_self c];exact ih _
  rw [if_neg c,if_neg c];exact ih _
theorem FH {v:bN→Prop} [DecidablePred v] {g:bN→Int} {l:List bN} {i:Nat} {s:bN} {n:Int} (h:l[i]?=some s):tX v g (l.take (i+1)) n=if v s then min (tX v g (l.take i) n) (g s) else tX v g (l.take i) n:=by
 unfold tX;rw [List.take_add_one,h,Option.toList_some,List.foldl_append,List.foldl_cons,List.foldl_nil]
noncomputable def rv (x:two):Nat→bG→Int
 | 0,_=>0
 | k+1,p=>if p=gP x then 0 else tX (jB x p) (fun s=>mJ x p s+rv x k (go p s)) stp 100000
theorem sQ {x:two}:∀ (k j:Nat) (p:bG),rem x p≤k→rem x p≤j→eX x p→rv x k p=rv x j p
 | 0,0,_,_,_,_=>rfl
 | 0,j+1,p,h1,_,hp=>by
  have:=(tW hp).1 (by omega);simp only [rv];rw [if_pos this]
 | k+1,0,p,_,h2,hp=>by
  have:=(tW hp).1 (by omega);simp only [rv];rw [if_pos this]
 | k+1,j+1,p,h1,h2,hp=>by
  simp only [rv];by_cases h:p=gP x
  ·rw [if_pos h,if_pos h]
  rw [if_neg h,if_neg h];refine tY _ _ fun s hs hv=>?_;have:=lS hs hp hv;rw [sQ k j (go p s) (by omega) (by omega) this.1]
noncomputable def RV (x:two) (p:bG):Int:=rv x (rem x p) p
theorem yC (x:two):RV x (gP x)=0:=by
 unfold RV
 cases rem x (gP x) with
 | zero=>rfl
 | succ k=>simp [rv]
theorem pO {x:two} {p:bG} (hp:eX x p) (h:p≠gP x):RV x p=tX (jB x p) (fun s=>mJ x p s+RV x (go p s)) stp 100000:=by
 have h1:rem x p≠0:=fun e=>h ((tW hp).1 e);obtain ⟨k,hk⟩:∃ k,rem x p=k+1:=⟨rem x p - 1,by omega⟩;unfold RV;rw [hk];simp only [rv];rw [if_neg h];refine tY _ _ fun s hs hv=>?_;have:=lS hs hp hv;rw [sQ k _ (go p s) (by omega) (Nat.le_refl _) this.1]
theorem FI {x:two} (hx:wU x):∀ (n:Nat) (p:bG),rem x p=n→eX x p→0≤RV x p∧RV x p≤2004*(n:Int):=by
 intro n
 induction n using Nat.strongRecOn with
 | _ n ih =>
  intro p hn hp;by_cases he:p=gP x
  ·rw [he,yC];omega
  rw [pO hp he];obtain ⟨⟨h1,h2⟩,h3⟩:=jK (v:=jB x p) (g:=fun s=>mJ x p s+RV x (go p s)) stp 100000;have hg:∀ s∈stp,jB x p s→0≤mJ x p s+RV x (go p s)∧mJ x p s+RV x (go p s)≤2004*(n:Int):=fun s hs hv=>by
   have h4:=lS hs hp hv;have h5:=ih _ (by omega) (go p s) rfl h4.1;have h6:=e65 hx hs hp hv;omega
  refine ⟨?_,?_⟩
  ·rcases h3 with h3 | ⟨s,hs,hv,e⟩
   ·rw [h3];decide
   rw [e];exact (hg s hs hv).1
  have:jB x p ⟨1,0⟩∨jB x p ⟨0,1⟩:=by
   by_cases c:p.left < nl x
   ·left;unfold eX jB at *;dsimp only;omega
   right
   have:p.right≠nr x:=fun e=>he (by cases p;unfold eX gP at *;simp only [bG.mk.injEq];dsimp only at *;omega)
   unfold eX jB at *;dsimp only;omega
  rcases this with hv | hv
  ·exact Int.le_trans (h2 _ (by decide) hv) (hg _ (by decide) hv).2
  exact Int.le_trans (h2 _ (by decide) hv) (hg _ (by decide) hv).2
theorem wK {x:two} (hx:wU x) {p:bG} (hp:eX x p):0≤RV x p∧RV x p≤80160:=by
 have h1:=FI hx _ p rfl hp;have h2:=yB hx hp;omega
theorem SY {x:two} (hx:wU x) {p:bG} (hp:eX x p) (h:p≠gP x):∃ s∈stp,jB x p s∧mJ x p s+RV x (go p s)=RV x p:=by
 have h1:=wK hx hp;have h2:=pO hp h;rcases (jK (v:=jB x p) (g:=fun s=>mJ x p s+RV x (go p s)) stp 100000).2 with h3 | ⟨s,hs,hv,e⟩
 ·rw [h2,h3] at h1;omega
 exact ⟨s,hs,hv,by rw [h2];exact e.symm⟩
def pE (x:two) (m:List (bG×Int)) (p:bG):Prop:=p=gP x∨(dR m p).isSome=true
def IR (x:two) (m:List (bG×Int)):Prop:=∀ p v,dR m p=some v→v=RV x p∧∀ s∈stp,jB x p s→pE x m (go p s)
theorem NC:xJ=some stp:=rfl
theorem IS (x:two):NP x=some (gP x):=rfl
theorem again {x:two} {m:List (bG×Int)} {p:bG} (hm:IR x m) (hd:pE x m p) (n:Nat):gX x (n+1) (p,m)=some (RV x p,m):=by
 unfold gX zD;rw [IS,Option.bind_some];dsimp only;by_cases h:p=gP x
 ·rw [if_pos h,h,yC]
 rw [if_neg h];have h1:=hd.resolve_left h;rw [if_pos h1];obtain ⟨v,hv⟩:=Option.isSome_iff_exists.1 h1;rw [hv,(hm p v hv).1];rfl
theorem sR {x:two} {m:List (bG×Int)} {p:bG} (hm:IR x m) (hd:pE x m p):nQ (fun n=>gX x n (p,m))=some (RV x p,m):=by
 unfold nQ;dsimp only;rw [show gX x 100000 (p,m)=some (RV x p,m) from again hm hd 99999];rfl
theorem IT {x:two} (hx:wU x):∀ (k:Nat) (p:bG) (m:List (bG×Int)),rem x p < k→eX x p→IR x m→T (gX x k (p,m)) fun r=>r.1=RV x p∧IR x r.2∧(∀ q,pE x m q→pE x r.2 q)∧pE x r.2 p:=by
 intro k
 induction k with
 | zero=>intro p m h;omega
 | succ k ih =>
  intro p m hk hp hm;by_cases hd:pE x m p
  ·exact .eq (again hm hd k) ⟨rfl,hm,fun _ h=>h,hd⟩
  have he:p≠gP x:=fun e=>hd (.inl e);have h0:dR m p=none:=by
   cases h:dR m p with
   | none=>rfl
   | some v=>exact absurd (.inr (by rw [h];rfl)) hd
  unfold gX zD;rw [IS,Option.bind_some];dsimp only;rw [if_neg he,h0,if_neg (by simp),NC,Option.bind_some];have hx1:=hx.nl;have hx2:=hx.nr;refine T.bd (Q:=fun r=>r.1=RV x p∧IR x r.2∧(∀ q,pE x m q→pE x r.2 q)∧∀ s∈stp,jB x p s→pE x r.2 (go p s)) (T.bd (Q:=fun r=>r.1=RV x p∧IR x r.2∧(∀ q,pE x m q→pE x r.2 q)∧∀ s∈stp,jB x p s→pE x r.2 (go p s)) (T.ix stp.length (·.1) (fun s=>s.2.1=tX (jB x p) (fun s=>mJ x p s+RV x (go p s)) (stp.take s.1) 100000∧IR x s.2.2∧(∀ q,pE x m q→pE x s.2.2 q)∧∀ z∈stp.take s.1,jB x p z→pE x s.2.2 (go p z)) (fun s hI hi=>?_) ⟨rfl,hm,fun _ h=>h,fun z hz=>by simp at hz⟩ (Nat.zero_le _)) fun r hr=>.mk hr) fun r hr=>?_
  ·obtain ⟨i,n,m1⟩:=s;dsimp only at hI hi ⊢;obtain ⟨h1,h2,h3,h4⟩:=hI;unfold DQ;refine T.ie (fun c=>?_) fun c=>.mk ⟨?_,h2,h3,?_⟩
   ·have hi':i < stp.length:=by simpa using c
    obtain ⟨s,hs,_⟩:T (stp[i]?) (fun s=>stp[i]?=some s):=T.at hi';have hsm:=List.mem_of_getElem? hs;have hb:=oH hsm;have hp':=hp;unfold eX at hp';dsimp only;rw [hs,Option.bind_some];refine T.ck (by omega) <| T.ck (by omega) ?_;have hsn:=FH (v:=jB x p) (g:=fun s=>mJ x p s+RV x (go p s)) (n:=100000) hs;refine T.bd (Q:=fun r=>r.1=tX (jB x p) (fun s=>mJ x p s+RV x (go p s)) (stp.take (i+1)) 100000∧IR x r.2∧(∀ q,pE x m1 q→pE x r.2 q)∧(jB x p s→pE x r.2 (go p s))) ?_ fun r hr=>.mk ⟨⟨hr.1,hr.2.1,fun q hq=>hr.2.2.1 q (h3 q hq),fun z hz hv=>?_⟩,rfl,hi'⟩
    ·by_cases hv:jB x p s
     ·have hv':=hv;unfold jB nl nr at hv';rw [if_pos hv'.1,if_pos hv'.2];have hc:=e65 hx hsm hp hv;have hgo:=lS hsm hp hv;have hR:=wK hx hgo.1;rw [hc.1];simp only [Option.bind_some];refine T.bd (Q:=fun r=>r.1=min n (mJ x p s+RV x (go p s))∧IR x r.2∧(∀ q,pE x m1 q→pE x r.2 q)∧pE x r.2 (go p s)) (T.bd (ih (go p s) m1 (by omega) hgo.1 h2) fun r hr=>?_) fun r hr=>.mk ⟨by rw [hr.1,hsn,if_pos hv,h1],hr.2.1,hr.2.2.1,fun _=>hr.2.2.2⟩;rw [hr.1];refine T.ck (by omega) ?_;rw [e64,Option.bind_some];exact .mk ⟨rfl,hr.2.1,hr.2.2.1,hr.2.2.2⟩
     have:(if p.left+s.left≤(x.left.list.length:Int) then (if p.right+s.right≤(x.right.list.length:Int) then (none:Option Unit) else some ()) else some ())=some ():=by
      unfold jB nl nr at hv;by_cases a:p.left+s.left≤(x.left.list.length:Int)
      ·rw [if_pos a,if_neg fun b=>hv ⟨a,b⟩]
      rw [if_neg a]
     refine T.ie (fun a=>T.ie (fun b=>absurd ⟨a,b⟩ hv) fun b=>.mk ⟨?_,h2,fun _ h=>h,fun h=>absurd h hv⟩) fun a=>.mk ⟨?_,h2,fun _ h=>h,fun h=>absurd h hv⟩
     ·rw [hsn,if_neg hv];exact h1
     rw [hsn,if_neg hv];exact h1
    rw [List.take_add_one,hs,Option.toList_some,List.mem_append,List.mem_singleton] at hz;rcases hz with hz | rfl
    ·exact hr.2.2.1 _ (h4 z hz hv)
    exact hr.2.2.2 hv
   ·have:stp.length≤i:=by simpa using c
    rw [pO hp he];dsimp only;rw [h1,List.take_of_length_le this]
   have:stp.length≤i:=by simpa using c
   rw [List.take_of_length_le this] at h4;exact h4
  obtain ⟨h1,h2,h3,h4⟩:=hr;have hmono:∀ q,pE x r.2 q→pE x (put r.2 p r.1) q:=fun q hq=>by
   rcases hq with hq | hq
   ·exact .inl hq
   refine .inr ?_;rw [nJ]
   split
   ·rfl
   exact hq
  refine .mk ⟨h1,fun q v hq=>?_,fun q hq=>hmono q (h3 q hq),.inr (by rw [nJ,if_pos rfl];rfl)⟩;rw [nJ] at hq;by_cases c:q=p
  ·rw [if_pos c] at hq;cases hq;subst c;exact ⟨h1,fun s hs hv=>hmono _ (h4 s hs hv)⟩
  rw [if_neg c] at hq;exact ⟨(h2 q v hq).1,fun s hs hv=>hmono _ ((h2 q v hq).2 s hs hv)⟩
end T4
set_option maxHeartbeats 4000000
namespace T4
open Go Go.Proofs Pk
def yD (x:two):bG→List bN→bG→Prop
 | p,[],q=>p=q
 | p,s::l,q=>s∈stp∧jB x p s∧mJ x p s+RV x (go p s)=RV x p∧yD x (go p s) l q
theorem yD.snoc {x:two} {q:bG} {s:bN} (hs:s∈stp) (hv:jB x q s) (ht:mJ x q s+RV x (go q s)=RV x q):∀ {l:List bN} {p:bG},yD x p l q→yD x p (l++[s]) (go q s)
 | [],p,h=>by
  have h:p=q:=h;subst h;exact ⟨hs,hv,ht,rfl⟩
 | a::l,p,h=>⟨h.1,h.2.1,h.2.2.1,yD.snoc hs hv ht h.2.2.2⟩
theorem t40 {x:two} (hx:wU x):T (QD x) fun r=>r.2=RV x ⟨0,0⟩∧yD x ⟨0,0⟩ r.1 (gP x)∧r.1.length≤40:=by
 have hx1:=hx.nl;have hx2:=hx.nr;have h0:eX x ⟨0,0⟩:=by unfold eX;dsimp only;omega
 unfold QD;refine T.bd (T.rc (IT hx 100000 ⟨0,0⟩ [] (by have:=yB hx h0;omega) h0 (fun p v h=>by cases h))) fun r hr=>?_;obtain ⟨hr1,hm,_,hd0⟩:=hr;refine T.bd (Q:=fun e=>yD x ⟨0,0⟩ e.2.2 (gP x)∧e.2.2.length≤40) (T.lp (fun s=>eX x ⟨s.1,s.2.1⟩∧pE x r.2 ⟨s.1,s.2.1⟩∧yD x ⟨0,0⟩ s.2.2 ⟨s.1,s.2.1⟩∧s.2.2.length+rem x ⟨s.1,s.2.1⟩≤40) (fun s=>rem x ⟨s.1,s.2.1⟩) (fun s hI=>?_) ⟨h0,hd0,(show yD x ⟨0,0⟩ [] ⟨0,0⟩ from rfl),by have:=yB hx h0;simpa using this⟩) fun e he=>.mk ⟨hr1,he.1,he.2⟩;obtain ⟨a,b,l⟩:=s;dsimp only at hI ⊢;obtain ⟨hp,hd,hP,hl⟩:=hI;unfold DR;rw [IS,Option.bind_some];dsimp only;refine T.ie (fun c=>.mk ⟨by rw [← c];exact hP,by dsimp only;omega⟩) fun c=>?_;have hcl:=hm ⟨a,b⟩;obtain ⟨v,hv⟩:=Option.isSome_iff_exists.1 (hd.resolve_left c);have hcl:=(hm _ v hv).2;rw [NC,Option.bind_some];have key:T (aQ (zE stp (a,b,l) x r) 0) fun e=>∃ s∈stp,jB x ⟨a,b⟩ s∧mJ x ⟨a,b⟩ s+RV x (go ⟨a,b⟩ s)=RV x ⟨a,b⟩∧e=.inr (.inl (a+s.left,b+s.right,l++[s])):=by
  refine T.ix stp.length id (fun i=>∀ s∈stp.take i,jB x ⟨a,b⟩ s→mJ x ⟨a,b⟩ s+RV x (go ⟨a,b⟩ s)≠RV x ⟨a,b⟩) (fun i hI hi=>?_) (fun s hs=>by simp at hs) (Nat.zero_le _);unfold zE;refine T.ie (fun ci=>?_) fun ci=>?_
  ·have hi':i < stp.length:=by simpa using ci
   obtain ⟨s,hs,_⟩:T (stp[i]?) (fun s=>stp[i]?=some s):=T.at hi';have hsm:=List.mem_of_getElem? hs;have hb:=oH hsm;have hp':=hp;unfold eX at hp';dsimp only at hp' ⊢;rw [hs,Option.bind_some];have next:¬(jB x ⟨a,b⟩ s∧mJ x ⟨a,b⟩ s+RV x (go ⟨a,b⟩ s)=RV x ⟨a,b⟩)→(∀ z∈stp.take (i+1),jB x ⟨a,b⟩ z→mJ x ⟨a,b⟩ z+RV x (go ⟨a,b⟩ z)≠RV x ⟨a,b⟩):=fun hn z hz hv=>by
    rw [List.take_add_one,hs,Option.toList_some,List.mem_append,List.mem_singleton] at hz;rcases hz with hz | rfl
    ·exact hI z hz hv
    exact fun e=>hn ⟨hv,e⟩
   refine T.bd (Q:=fun t=>(t=.inl ()∧¬(jB x ⟨a,b⟩ s∧mJ x ⟨a,b⟩ s+RV x (go ⟨a,b⟩ s)=RV x ⟨a,b⟩))∨(jB x ⟨a,b⟩ s∧mJ x ⟨a,b⟩ s+RV x (go ⟨a,b⟩ s)=RV x ⟨a,b⟩∧t=.inr (.inr (.inr (.inl (a+s.left,b+s.right,l++[s])))))) (T.ck (by omega) <| T.ck (by omega) ?_) fun t ht=>?_
   ·by_cases hv:jB x ⟨a,b⟩ s
    ·have hv':=hv;unfold jB nl nr at hv';dsimp only at hv';rw [if_pos hv'.1,if_pos hv'.2];have hc:=e65 hx hsm hp hv;have hgo:=lS hsm hp hv;have hR:=wK hx hgo.1;rw [hc.1];simp only [Option.bind_some];have e1:=sR hm (hcl s hsm hv);have e2:=sR hm hd;unfold go at e1;dsimp only at e1;rw [e1];simp only [Option.bind_some];unfold go at hR;dsimp only at hR;refine T.bd (Q:=fun t=>(t=.inr ()∧¬(mJ x ⟨a,b⟩ s+RV x (go ⟨a,b⟩ s)=RV x ⟨a,b⟩))∨(mJ x ⟨a,b⟩ s+RV x (go ⟨a,b⟩ s)=RV x ⟨a,b⟩∧t=.inl (a+s.left,b+s.right,l++[s]))) (T.ck (by trivial) <| T.ck (by omega) ?_) fun t ht=>?_
     ·rw [e2];simp only [Option.bind_some];refine T.ck (by trivial) <| T.ie (fun c=>T.ck (by simp;omega) <| .mk (.inr ⟨c,rfl⟩)) fun c=>.mk (.inl ⟨rfl,c⟩)
     rcases ht with ⟨rfl,ht⟩ | ⟨hti,rfl⟩
     ·exact .mk (.inl ⟨rfl,fun h=>ht h.2⟩)
     exact .mk (.inr ⟨hv,hti,rfl⟩)
    refine T.ie (fun u=>T.ie (fun w=>absurd ⟨u,w⟩ hv) fun w=>.mk (.inl ⟨rfl,fun h=>hv h.1⟩)) fun u=>.mk (.inl ⟨rfl,fun h=>hv h.1⟩)
   rcases ht with ⟨rfl,hn⟩ | ⟨hv,hti,rfl⟩
   ·exact .mk ⟨next hn,rfl,hi'⟩
   exact .mk ⟨s,hsm,hv,hti,rfl⟩
  have:stp.length≤i:=by simpa using ci
  rw [List.take_of_length_le this] at hI;obtain ⟨s,hs,hv,e⟩:=SY hx hp c;exact absurd e (hI s hs hv)
 obtain ⟨e,h1,s,hs,hvs,hti,he⟩:=key;rw [h1,he];have hgo:=lS hs hp hvs;refine .mk ⟨⟨hgo.1,hcl s hs hvs,hP.snoc hs hvs hti,?_⟩,hgo.2⟩;have h2:rem x (⟨a+s.left,b+s.right⟩:bG) < rem x ⟨a,b⟩:=hgo.2;show (l++[s]).length+rem x (⟨a+s.left,b+s.right⟩:bG)≤40;rw [List.length_append,List.length_singleton];omega
theorem t17 {l r:List aA} (hl:yA l) (hr:yA r):T (m17 l r) fun z=>z.2.2=0∧z.2.1=RV ⟨⟨l⟩,⟨r⟩⟩ ⟨0,0⟩∧yD ⟨⟨l⟩,⟨r⟩⟩ ⟨0,0⟩ z.1 (gP ⟨⟨l⟩,⟨r⟩⟩)∧z.1.length≤40:=by
 unfold m17;rw [e39 hl hr,Option.bind_some,if_neg (by simp)];exact T.bd (t40 ⟨hl,hr⟩) fun z hz=>.mk ⟨rfl,hz⟩
theorem e111 {s:bN} (h:s∈stp):ER stp s=some true:=by
 have:T (aQ (tN stp s) 0) fun e=>∃ z:Nat,e=.inr (z:Int):=by
  refine T.ix stp.length id (fun i=>s∉stp.take i) (fun i hI hi=>?_) (by simp) (Nat.zero_le _);unfold tN;refine T.ie (fun c=>T.bd (T.at (by omega)) fun y hy=>T.ie (fun e=>.mk ⟨i,rfl⟩) fun e=>.mk ⟨?_,rfl,by simp only [id];omega⟩) fun c=>?_
  ·rw [List.take_add_one,hy,Option.toList_some,List.mem_append,List.mem_singleton];exact fun k=>k.elim hI e
  have:stp.length≤i:=by simpa using c
  rw [List.take_of_length_le (by simpa using this)] at hI;exact absurd h hI
 obtain ⟨e,h1,z,rfl⟩:=this;unfold ER HY;rw [h1];simp [nn0]
theorem tF {α:Type} {l:List α} {i:Nat} {s:α} (h:l[i]?=some s):l.drop i=s::l.drop (i+1):=by
 obtain ⟨h1,rfl⟩:=List.getElem?_eq_some_iff.1 h;exact List.drop_eq_getElem_cons h1
theorem e66 {x:two} (hx:wU x) {l:List bN} (h:yD x ⟨0,0⟩ l (gP x)):RB x l=some true:=by
 have hx1:=hx.nl;have hx2:=hx.nr
 have:T (aQ (zJ l x) (0,0,0)) fun e=>∃ a b,e=.inl (a,b)∧(⟨a,b⟩:bG)=gP x:=by
  refine T.ix l.length (·.1) (fun s=>eX x ⟨s.2.1,s.2.2⟩∧yD x ⟨s.2.1,s.2.2⟩ (l.drop s.1) (gP x)) (fun s hI hi=>?_) ⟨by unfold eX;dsimp only;omega,h⟩ (Nat.zero_le _);obtain ⟨i,a,b⟩:=s;dsimp only at hI hi ⊢;obtain ⟨hp,hP⟩:=hI;unfold zJ;refine T.ie (fun c=>T.bd (T.at (by dsimp only at *;omega)) fun s hs=>?_) fun c=>.mk ⟨a,b,rfl,?_⟩
  ·dsimp only at hs c ⊢;rw [tF hs] at hP;have hb:=oH hP.1;have hp':=hp;have hv:=hP.2.1;unfold eX at hp';unfold jB nl nr at hv;dsimp only at hp' hv;rw [NC,Option.bind_some,e111 hP.1,Option.bind_some,if_pos rfl];refine T.ck (by omega) <| T.ck (by omega) ?_;rw [if_neg (by omega),Option.bind_some,if_neg (by simp;omega)];exact .mk ⟨⟨(lS hP.1 hp hP.2.1).1,hP.2.2.2⟩,rfl,by omega⟩
  have:l.length≤i:=by simpa using c
  rw [List.drop_of_length_le this] at hP;exact hP
 obtain ⟨e,h1,a,b,rfl,h2⟩:=this;unfold RB;rw [h1];simp only [Option.bind_some,IS,h2,decide_true]
theorem t19 {l r:List aA} (hl:yA l) (hr:yA r) {s:List bN} (h:yD ⟨⟨l⟩,⟨r⟩⟩ ⟨0,0⟩ s (gP ⟨⟨l⟩,⟨r⟩⟩)) (hs:s.length≤40):T (m19 l r s) fun z=>z.2=0:=by
 have hx:wU ⟨⟨l⟩,⟨r⟩⟩:=⟨hl,hr⟩;have hx1:=hx.nl;have hx2:=hx.nr;have e42:RD l r s=some (⟨⟨l⟩,⟨r⟩⟩,0):=by
  unfold RD;rw [e39 hl hr,Option.bind_some,if_pos rfl,e66 hx h];rfl
 unfold m19;rw [e42,Option.bind_some,if_neg (by simp)];refine T.bd (Q:=fun _=>True) (T.ix s.length (·.1) (fun z=>eX ⟨⟨l⟩,⟨r⟩⟩ ⟨z.2.1,z.2.2.1⟩∧yD ⟨⟨l⟩,⟨r⟩⟩ ⟨z.2.1,z.2.2.1⟩ (s.drop z.1) (gP ⟨⟨l⟩,⟨r⟩⟩)∧z.2.2.2.length≤z.1) (fun z hI hi=>?_) ⟨by unfold eX;dsimp only;omega,h,Nat.le_refl _⟩ (Nat.zero_le _)) fun e _=>.mk rfl;obtain ⟨i,a,b,o⟩:=z;dsimp only at hI hi ⊢;obtain ⟨hp,hP,ho⟩:=hI;unfold ES;refine T.ie (fun c=>T.bd (T.at (by dsimp only at *;omega)) fun t ht=>?_) fun c=>.mk trivial;dsimp only at ht c ⊢;rw [tF ht] at hP;have hb:=oH hP.1;have hp':=hp;have hv:=hP.2.1;unfold eX at hp';unfold jB at hv;dsimp only at hp' hv;refine T.bd (t43 hx hP.1 hp hP.2.1) fun q _=>T.bd (t44 _ _) fun n _=>T.bd (Q:=fun o'=>o'.length≤i+1) (T.ie (fun _=>T.ck (by omega) <| .mk (by simp;omega)) fun _=>.mk (by omega)) fun o' ho'=>T.ck (by omega) <| T.ck (by omega) <| .mk ⟨⟨(lS hP.1 hp hP.2.1).1,hP.2.2.2,ho'⟩,rfl,by omega⟩
end T4
set_option maxHeartbeats 4000000
namespace T4
open Go Go.Proofs Pk
def xm:two:=⟨⟨[⟨[7],1⟩]⟩,⟨[⟨[7],1⟩]⟩⟩
theorem IU:yA xm.left.list:=⟨by decide,fun s hs=>by
 have hs:s∈[(⟨[7],1⟩:aA)]:=hs;rw [List.mem_singleton.1 hs]
 exact ⟨by decide,fun i a b ha hb=>by simp at hb,fun m hm=>by rw [List.mem_singleton.1 hm];decide,by decide⟩⟩
theorem c11:BF xm ⟨0,0⟩ ⟨1,1⟩=some 0:=by
 have h1:T (FR xm ⟨0,0⟩ ⟨1,1⟩) fun r=>r.1=r.2∧r.1.text.list.length=1:=by
  unfold FR;obtain ⟨v,hv,hl⟩:=NB (t:=xm.left) (a:=0) (b:=0+1) IU (by decide);refine T.ck (by decide) ⟨(v,v),?_,rfl,hl⟩;dsimp only;rw [hv,Option.bind_some,cQ,if_pos (by decide),show LJ xm.right 0 (0+1)=some v from hv];rfl
 obtain ⟨r,hr,r1,r2⟩:=h1;obtain ⟨n,hn,_,n1⟩:=t44 r.1 r.2;unfold BF;rw [hr,Option.bind_some];unfold AQ;rw [hn,n1 (by rw [r1])];rw [← r1];simp [r2,cQ]
theorem c10 (s:bN) (hs:s=⟨1,0⟩∨s=⟨0,1⟩):T (BF xm ⟨0,0⟩ s) fun n=>3≤n:=by
 have h1:T (FR xm ⟨0,0⟩ s) fun r=>r.1.text.list.length=0∨r.2.text.list.length=0:=by
  unfold FR;rcases hs with rfl | rfl
  ·exact T.ck (by decide) <| T.bd (NB IU (by decide)) fun _ _=>T.ck (by decide) <| T.bd (NB IU (by decide)) fun _ h=>.mk (.inr h)
  exact T.ck (by decide) <| T.bd (NB IU (by decide)) fun _ h=>T.ck (by decide) <| T.bd (NB IU (by decide)) fun _ _=>.mk (.inl h)
 unfold BF;refine T.bd h1 fun r hr=>T.bd (Q:=fun n=>0≤n∧n≤2000) ?_ fun n hn=>T.ck (by omega) <| T.bd (Q:=fun n:Nat=>n=3) ?_ fun m hm=>T.ck (by omega) <| T.bd (Q:=fun n:Nat=>n≤1) ?_ fun k hk=>T.ck (by omega) <| .mk (by omega)
 ·unfold AQ;exact T.bd (t44 _ _) fun n hn=>T.ck (by have:=hn.1;omega) <| .mk (by have:=hn.1;omega)
 ·split
  ·exact .mk rfl
  rw [if_pos (by omega)];exact .mk rfl
 split
 ·exact .mk (by omega)
 split <;> exact .mk (by omega)
theorem aA9:NR=some true:=by
 have hx:wU xm:=⟨IU,IU⟩;have h0:eX xm ⟨0,0⟩:=by unfold eX;decide
 have he:gP xm=⟨1,1⟩:=rfl;have hne:(⟨0,0⟩:bG)≠gP xm:=by rw [he];decide
 have hc:mJ xm ⟨0,0⟩ ⟨1,1⟩=0∧∀ s,s=⟨1,0⟩∨s=⟨0,1⟩→3≤mJ xm ⟨0,0⟩ s:=by
  unfold mJ;rw [c11];refine ⟨rfl,fun s hs=>?_⟩;obtain ⟨n,h1,h2⟩:=c10 s hs;rw [h1];exact h2
 have hR:RV xm ⟨0,0⟩=0:=by
  have h1:=(jK (v:=jB xm ⟨0,0⟩) (g:=fun s=>mJ xm ⟨0,0⟩ s+RV xm (go ⟨0,0⟩ s)) stp 100000).1.2 ⟨1,1⟩ (by decide) (by decide);rw [← pO h0 hne] at h1;have h2:=(wK hx h0).1;rw [hc.1,show go ⟨0,0⟩ ⟨1,1⟩=gP xm from rfl,yC] at h1;omega
 obtain ⟨z,hz,z1,z2,z3,z4⟩:=t17 IU IU;have hz3:z.1=[⟨1,1⟩]:=by
  cases hl:z.1 with
  | nil=>rw [hl] at z3;exact absurd z3 hne
  | cons s l =>
   rw [hl] at z3;obtain ⟨h1,h2,h3,h4⟩:=(z3:yD xm ⟨0,0⟩ (s::l) (gP xm));have hg:=lS h1 h0 h2;have hb:=(wK hx hg.1).1
   replace h3:mJ xm ⟨0,0⟩ s+RV xm (go ⟨0,0⟩ s)=RV xm ⟨0,0⟩:=h3
   rw [hR] at h3;simp only [stp,List.mem_cons,List.not_mem_nil,or_false] at h1;rcases h1 with rfl | rfl | rfl | rfl | rfl
   ·exact absurd h2 (by decide)
   ·exact absurd h2 (by decide)
   ·cases l with
    | nil=>rfl
    | cons s' l' =>
     have h5:=lS h4.1 hg.1 h4.2.1
     have:rem xm (go ⟨0,0⟩ ⟨1,1⟩)=0:=rfl
     omega
   ·have:=hc.2 _ (.inl rfl);omega
   have:=hc.2 _ (.inr rfl);omega
 unfold NR;rw [show ([⟨[7],1⟩]:List aA)=xm.left.list from rfl];rw [hz,Option.bind_some,z1,hz3]
 have:z.2.1=0:=z2.trans hR
 simp [this]
end T4
set_option maxHeartbeats 4000000
namespace T4
open Go Go.Proofs Pk
theorem oT:∀ {a b:List aW},dZ [] a b=true→a=b
 | [],[],_=>rfl
 | x::a,y::b,h=>by
  replace h:(fD [] x y&&dZ [] a b)=true:=h
  rw [Bool.and_eq_true] at h;have h1:x=y:=by have:=h.1;unfold fD at this;simpa using this
  rw [h1,oT h.2]
 | [],y::b,h=>by cases h
 | x::a,[],h=>by cases h
def TZ (m:aW):Prop:=1≤m.kind∧m.kind≤3∧0≤m.value
theorem tZ {k v:Int} (h1:1≤k) (h2:k≤3) (h3:0≤v):TZ ⟨k,v⟩:=⟨h1,h2,h3⟩
theorem sT:∀ (ls:List (List aF)) (i:Int),0≤i→∀ q∈eK ls i,TZ q.2
 | [],_,_,q,h=>by cases h
 | l::ls,i,hi,q,h=>by
  simp only [eK,List.mem_append,List.mem_map] at h;rcases h with ⟨s,_,rfl⟩ | h
  ·exact tZ (k:=2) (by decide) (by decide) hi
  exact sT ls (i+1) (by omega) q h
theorem FJ {l:aM} (hf:dD l=0):∀ q∈fI l,TZ q.2:=by
 intro q h;unfold fI at h;rw [List.mem_append,List.mem_append,List.mem_map,List.mem_map] at h;rcases h with ⟨n,hn,rfl⟩ | h | ⟨n,hn,rfl⟩
 ·refine tZ (k:=1) (by decide) (by decide) ?_;rw [FA] at hf
  split at hf
  ·rename_i ho
   unfold zR at ho;simp only [Bool.and_eq_true,List.all_eq_true] at ho;have:=ho.1.1 n hn;unfold eJ In at this;simp only [Bool.and_eq_true,decide_eq_true_eq] at this;exact this.2.1
  cases hf
 ·exact sT _ _ (Int.le_refl _) q h
 exact tZ (k:=3) (v:=0) (by decide) (by decide) (by decide)
theorem FK {l:aM} (hf:dD l=0) (t:List aF):∀ m∈eE l t,TZ m:=by
 intro m hm;unfold eE at hm;rw [List.mem_filter,List.mem_map] at hm;obtain ⟨⟨s,_,rfl⟩,hk⟩:=hm;have hk:(kM l s).kind≠0:=by simpa using hk
 unfold kM at hk ⊢
 cases h:dR (fI l) s with
 | some m =>
  obtain ⟨j,hj,_⟩:=CL h;exact FJ hf _ (List.mem_of_getElem? hj)
 | none =>
  rw [h] at hk;simp only [Option.getD_none] at hk ⊢;unfold iP at hk ⊢
  split
  ·rename_i c;exact tZ (k:=1) (by decide) (by decide) c
  rename_i c;rw [if_neg c] at hk;exact absurd rfl hk
theorem FL {l:List Int} {n:Int} {k:Nat} (h:l.Pairwise (· < ·)) (h1:∀ x∈l.take k,x < n) (h2:∀ x∈l.drop k,n < x):(l.take k++[n]++l.drop k).Pairwise (· < ·):=by
 rw [← List.take_append_drop k l,List.pairwise_append] at h;rw [List.append_assoc,List.pairwise_append];refine ⟨h.1,List.pairwise_cons.2 ⟨h2,h.2.1⟩,fun x hx y hy=>?_⟩;rcases List.mem_cons.1 hy with rfl | hy
 ·exact h1 x hx
 exact h.2.2 x hx y hy
theorem IV {l:List Int} (h:l.Pairwise (· < ·)):∀ i a b,l[i]?=some a→l[i+1]?=some b→a < b:=fun i a b ha hb=>by
 obtain ⟨h1,rfl⟩:=List.getElem?_eq_some_iff.1 ha;obtain ⟨h2,rfl⟩:=List.getElem?_eq_some_iff.1 hb;exact List.pairwise_iff_getElem.1 h _ _ h1 h2 (by omega)
theorem SZ (s:Nat×List Int) (m:aW) (n:Int) (hn:n=300*(m.kind - 1)+m.value%300) (hs:s.2.Pairwise (· < ·)):T (aQ (zG s m) (0,0,false)) fun e=>(e.2=false→e.1≤s.2.length∧(∀ x∈s.2.take e.1,x < n)∧∀ x∈s.2.drop e.1,n < x):=by
 refine T.ix s.2.length (·.2.1) (fun z=>z.1≤z.2.1∧(∀ (j:Nat) x,j < z.1→s.2[j]?=some x→x < n)∧(∀ (j:Nat) x,z.1≤j→j < z.2.1→s.2[j]?=some x→¬x < n)∧(z.2.2=false→∀ (j:Nat) x,j < z.2.1→s.2[j]?=some x→x≠n)) (fun z hI hi=>?_) ⟨Nat.le_refl _,fun j x h=>by simp at h,fun j x _ h=>by simp at h,fun _ j x h=>by simp at h⟩ (Nat.zero_le _);obtain ⟨a,k,b⟩:=z;dsimp only at hI hi ⊢;obtain ⟨h1,h2,h3,h4⟩:=hI;unfold zG;refine T.ie (fun c=>?_) fun c=>.mk fun hb=>?_
 ·dsimp only at c ⊢;obtain ⟨x,hx,_⟩:T (s.2[k]?) (fun x=>s.2[k]?=some x):=T.at (by omega);rw [hx,← hn];simp only [Option.bind_some];have hgt:∀ (j:Nat) y,j < k→s.2[j]?=some y→y < x:=fun j y hj hy=>by
   obtain ⟨i1,rfl⟩:=List.getElem?_eq_some_iff.1 hx;obtain ⟨i2,rfl⟩:=List.getElem?_eq_some_iff.1 hy;exact List.pairwise_iff_getElem.1 hs _ _ i2 i1 hj
  refine T.bd (Q:=fun r=>r=false→b=false∧x≠n) (T.ie (fun d=>.mk fun h=>by cases h) fun d=>.mk fun h=>⟨by simpa using d,by simpa using h⟩) fun r hr=>T.bd (Q:=fun q=>(q=k+1∧x < n)∨(q=a∧¬x < n)) (T.ie (fun d=>.mk (.inl ⟨rfl,d⟩)) fun d=>.mk (.inr ⟨rfl,d⟩)) fun q hq=>.mk ⟨⟨?_,fun j y hj hy=>?_,fun j y hj hk hy=>?_,fun h j y hj hy=>?_⟩,rfl,by omega⟩
  ·dsimp only;omega
  ·rcases hq with ⟨rfl,hlt⟩ | ⟨rfl,hlt⟩
   ·by_cases e:j=k
    ·subst e;rw [hx] at hy;cases hy;exact hlt
    exact Int.lt_trans (hgt j y (by dsimp only at hj;omega) hy) hlt
   exact h2 j y hj hy
  ·rcases hq with ⟨rfl,hlt⟩ | ⟨rfl,hlt⟩
   ·dsimp only at hj hk;omega
   by_cases e:j=k
   ·subst e;rw [hx] at hy;cases hy;exact hlt
   exact h3 j y hj (by dsimp only at hk;omega) hy
  obtain ⟨hb,hne⟩:=hr h;by_cases e:j=k
  ·subst e;rw [hx] at hy;cases hy;exact hne
  exact h4 hb j y (by dsimp only at hj;omega) hy
 dsimp only at c hb ⊢;have hk:s.2.length≤k:=by omega
 refine ⟨by omega,fun x hx=>?_,fun x hx=>?_⟩
 ·obtain ⟨j,hj,e⟩:=List.getElem_of_mem hx;rw [List.length_take] at hj;rw [List.getElem_take] at e;exact h2 j x (by omega) (by rw [← e];exact List.getElem?_eq_getElem (by omega))
 obtain ⟨j,hj,e⟩:=List.getElem_of_mem hx;rw [List.length_drop] at hj;rw [List.getElem_drop] at e;have hx':s.2[a+j]?=some x:=by rw [← e];exact List.getElem?_eq_getElem (by omega)
 have:=h3 (a+j) x (by omega) (by omega) hx';have:=h4 hb (a+j) x (by omega) hx';omega
theorem t16 {l:aM} (hf:dD l=0) {t:List aF} (ht:t.length≤1000000):∃ r,OkS ⟨r,1⟩∧∀ t',t'.length≤1000000→eE l t'=eE l t→m16 l t'=some r:=by
 have hlen:=BC l t;have hok:=FK hf t
 have:T (aQ (zH (eE l t)) (0,[])) fun r=>OkS ⟨r,1⟩:=by
  refine T.lp (fun s=>s.1≤(eE l t).length∧s.2.length≤12∧s.2.Pairwise (· < ·)∧∀ m∈s.2,0≤m∧m≤999) (fun s=>(eE l t).length - s.1) (fun s hI=>?_) ⟨Nat.zero_le _,by simp,.nil,fun m hm=>by cases hm⟩;obtain ⟨i,o⟩:=s;dsimp only at hI ⊢;obtain ⟨h1,h2,h3,h4⟩:=hI;unfold zH;refine T.bd (Q:=fun b=>b=true→i < (eE l t).length∧o.length < 12) (T.ie (fun c=>.mk fun h=>⟨by simpa using c,by simp at h;omega⟩) fun c=>.mk fun h=>by cases h) fun b hb=>T.ie (fun c=>?_) fun c=>.mk ⟨h2,IV h3,h4,⟨Int.le_refl 1,show (1:Int)≤200 by decide⟩⟩;obtain ⟨hi,ho⟩:=hb c;refine T.bd (T.at hi) fun m hm=>?_;have hmk:=hok m (List.mem_of_getElem? hm);have hk1:=hmk.1;have hk2:=hmk.2.1;have hk3:=hmk.2.2;have hmod:0≤m.value%300∧m.value%300 < 300:=⟨Int.emod_nonneg _ (by decide),Int.emod_lt_of_pos _ (by decide)⟩;refine T.ck (by omega) <| T.ck (by omega) <| T.ck (by omega) <| T.ck ⟨hk3,by decide⟩ <| T.ck (by omega) <| T.bd (SZ (i,o) m _ rfl h3) fun e he=>T.bd (Q:=fun p=>p.length≤12∧p.Pairwise (· < ·)∧∀ m∈p,0≤m∧m≤999) (T.ie (fun _=>.mk ⟨h2,h3,h4⟩) fun d=>?_) fun p hp=>T.ck (by omega) <| .mk ⟨⟨by dsimp only;omega,hp⟩,by dsimp only;omega⟩;obtain ⟨g1,g2,g3⟩:=he (by simpa using d);dsimp only at g1 g2 g3 ⊢;have hl1:(o.take e.1).length=e.1:=by rw [List.length_take];omega
  have hl2:(o.drop e.1).length=o.length - e.1:=List.length_drop;refine T.ck g1 <| T.ck (by simp;omega) <| T.ck (by simp;omega) <| T.ck (by simp;omega) <| .mk ⟨by simp;omega,?_,fun x hx=>?_⟩
  ·rw [List.nil_append];exact FL h3 g2 g3
  rw [List.nil_append,List.mem_append,List.mem_append,List.mem_singleton] at hx;rcases hx with (hx | rfl) | hx
  ·exact h4 x (List.mem_of_mem_take hx)
  ·omega
  exact h4 x (List.mem_of_mem_drop hx)
 obtain ⟨r,h1,h2⟩:=this;refine ⟨r,h2,fun t' ht' he=>?_⟩;unfold m16;rw [e38 l (by show _≤_;omega),Option.bind_some,he,h1];rfl
theorem aBa {l:List aA} (h:yA l):m18 l=some l:=by
 have h0:∀ s∈l,RA s.marks=some s.marks:=fun s hs=>by
  have:=(h.2 s hs).few;unfold RA;rw [bU (by simp;omega)];rfl
 have hl:=h.1
 have:T (aQ (zI l) (0,[])) fun r=>r=l:=by
  refine T.ix l.length (·.1) (fun s=>s.2=l.take s.1) (fun s hI hi=>?_) rfl (Nat.zero_le _);obtain ⟨i,o⟩:=s;dsimp only at hI hi ⊢;subst hI;unfold zI;refine T.ie (fun c=>T.bd (T.at (by dsimp only at *;omega)) fun s hs=>?_) fun c=>.mk (by dsimp only at *;rw [List.take_of_length_le (by omega)]);dsimp only at hs c ⊢;rw [h0 s (List.mem_of_getElem? hs),Option.bind_some];refine T.ck (by simp;omega) <| .mk ⟨?_,rfl,by omega⟩;rw [List.take_add_one,hs];rfl
 obtain ⟨r,h1,h2⟩:=this;unfold m18;rw [h1,h2];rfl
theorem aBb (v:List aT×Int) (hv:v.1.length≤1000) (h:∀ s∈v.1,s.dP.length≤1000∧s.eC.length≤1000):aQ (AT v) (0,[],[])=some (v.1.flatMap (·.eC),v.1.flatMap (·.dP)):=by
 have:=iB (σ:=List aF×List aF) v.1 (fun s x=>(s.1++x.eC,s.2++x.dP)) (fun s=>(s.1,s.2)) (fun i s=>s.1.length≤1000*i∧s.2.length≤1000*i) (step:=AT v) (fun i x s hi hx hI=>?_) (fun i x s hi hx hI=>?_) (fun s hI=>?_) (a0:=([],[])) ⟨by simp,by simp⟩
 ·rw [this,wJ];simp
 ·obtain ⟨h1,h2⟩:=h x (List.mem_of_getElem? hx);unfold AT;rw [if_pos (by simpa using hi)];simp only [hx,Option.bind_some];rw [bU (by omega),bU (by omega)]
 ·obtain ⟨h1,h2⟩:=h x (List.mem_of_getElem? hx);simp only [List.length_append];omega
 unfold AT;rw [if_neg (by simp)]
end T4
set_option maxHeartbeats 4000000
namespace T4
open Go Go.Proofs Pk
theorem aBc (p:List Int×Int):aQ (ET p p) 0=some (.inl ()):=by
 have:T (aQ (ET p p) 0) fun e=>e=.inl ():=by
  refine T.ix p.1.length id (fun _=>True) (fun i _ hi=>?_) trivial (Nat.zero_le _);unfold ET;refine T.ie (fun c=>T.bd (T.at (by omega)) fun x hx=>?_) fun _=>.mk rfl;rw [hx,Option.bind_some,if_neg (by simp)];exact .mk ⟨trivial,rfl,by simp only [id];omega⟩
 obtain ⟨e,h1,h2⟩:=this;rw [h1,h2]
theorem aBd (l:aM) (r:aY) (q:List aE) (right:List aA) (hq:∀ x∈q,x.cut≤9223372036854775807):m3 l r q right=some true:=by
 unfold m3;rw [e5,e6,aA9];simp only [Option.bind_some];by_cases ht:BB l []=true
 rotate_left
 ·rw [if_neg ht];simp
 rw [if_pos ht];by_cases hf:OC r q=true
 rotate_left
 ·rw [if_neg hf];simp
 rw [if_pos hf];have hT:=(IM ht).1;have hRQ:=MV hf;rw [e7 hT,e8 (MU hRQ.words2)];simp only [Option.bind_some];by_cases hl:dD l=0
 rotate_left
 ·rw [if_pos hl];simp
 rw [if_neg (by simpa using hl)];by_cases hR:dL r=true
 rotate_left
 ·rw [if_neg hR];simp
 rw [if_pos hR];by_cases h0:20 < (q.length:Int)
 ·rw [if_pos h0];simp
 rw [if_neg h0];obtain ⟨b9,e9,h9⟩:=t9 right;rw [e9,Option.bind_some]
 cases b9 with
 | false=>simp
 | true =>
 obtain ⟨n0,e10,h1⟩:=t10 right (h9 rfl);rw [if_pos rfl,e10];simp only [Option.bind_some];by_cases hn:n0=0
 rotate_left
 ·simp [hn]
 rw [if_neg (by simp [hn])];have hright:=h1 hn;have hw:sI l [] r q=0:=by
  unfold sI qP;rw [if_pos hl,show mD []=0 from rfl,if_pos rfl,if_pos hR,if_neg (by omega)]
 rw [e13 hT,e14 (by have:=hRQ.words1;omega),e15 (by have:=hRQ.req1;omega) (fun x hx=>by have:=(hRQ.req2 x hx).1;show _≤_;omega)];simp only [Option.bind_some];rw [e12 hT hRQ hq];simp only [Option.bind_some];unfold oG;rw [if_pos hw,IQ];have hmem:∀ i∈dO r.words.length q (cY l [] r q),i∈eL l [] r q:=fun i hi=>iL.1 hi;have hlen:=tV r q (dO r.words.length q (cY l [] r q)) 0;have hpl:=(gO (l:=l) (sw:=[]) (r:=r) (q:=q)).length_eq;have hle:=kZ (l:=l) (sw:=[]) (r:=r) (q:=q);have hql:=hRQ.req1;have hwl:=hRQ.words1;have hB:=oS (l:=l) (sw:=[]) (r:=r) (q:=q) _ 0 hmem;have hTx:=BE (l:=l) (sw:=[]) hR (q:=q) _ 0 hmem;generalize dM r q (dO r.words.length q (cY l [] r q)) 0=v at hlen hB hTx;have hflat:∀ (f:aT→List aF),(∀ s∈v,(f s).length≤1000)→(v.flatMap f).length≤1000*v.length:=by
  intro f h;clear hlen hB hTx
  induction v with
  | nil=>simp
  | cons x v ih =>
   rw [List.flatMap_cons,List.length_append,List.length_cons];have:=h x List.mem_cons_self;have:=ih (fun s hs=>h s (List.mem_cons_of_mem _ hs));omega
 have hsz:∀ s∈v,s.dP.length≤1000∧s.eC.length≤1000:=fun s hs=>by
  obtain ⟨_,_,h3,h4⟩:=hTx s hs;omega
 rw [if_neg (by simp)];rw [aBb _ (by dsimp only;omega) hsz,Option.bind_some];dsimp only;have ho:=hflat (·.dP) (fun s hs=>(hsz s hs).1);have hn:=hflat (·.eC) (fun s hs=>(hsz s hs).2);obtain ⟨k,hk,hkk⟩:=t16 hl (t:=v.flatMap (·.dP)) (by omega);rw [hkk _ (by omega) rfl,hkk _ (by omega) (oT hB).symm,aBa hright];simp only [Option.bind_some];have hS:yA [(⟨k,1⟩:aA)]:=⟨by simp,fun s hs=>by rw [List.mem_singleton.1 hs];exact hk⟩;obtain ⟨z,hz,z1,z2,z3,z4⟩:=t17 hS hright;rw [hz];simp only [Option.bind_some];rw [z1];simp only [ne_eq,not_true,if_false,Option.bind_some,decide_false,Bool.false_eq_true];rw [bU (by simp;omega),List.nil_append];obtain ⟨y,hy,y1⟩:=t19 hS hright z3 z4;rw [hy];simp only [Option.bind_some];rw [y1];simp only [ne_eq,not_true,if_false,Option.bind_some,decide_false,Bool.false_eq_true];rw [aBc];rfl
end T4
