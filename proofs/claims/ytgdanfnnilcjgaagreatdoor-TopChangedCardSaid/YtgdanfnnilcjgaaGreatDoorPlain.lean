/-
  The plain laws: what the models come to.
-/
import Derived.Test.YtgdanfnnilcjgaaGreatDoorMade
import Derived.Test.YtgdanfnnilcjgaaGreatDoorKitSix
set_option linter.all false
namespace T4
open Go Go.Proofs Pk
def In (n lo hi:Int):Bool:=decide (lo≤n∧n≤hi)
def NH (c:UInt8):Bool:=decide (33≤c.toNat∧c.toNat≤126)
def eU (s:aD):Bool:=s.all NH&&In s.length 1 32
def oG (l:List aD) (most:Int):Bool:=l.all eU&&decide ((l.length:Int)≤most)
def iD (l:List aD) (most:Int):Bool:=l.all (fun s=>decide (s.length≤40))&&decide ((l.length:Int)≤most)
def iE (n:bW):Bool:=eU n.text&&In n.value 0 999999999
def jL (l:List aD):Bool:=!l.isEmpty&&oG l 5
def aP.all (l:aP):List aD:=l.numbers.map (·.text)++l.names.flatten++l.nots
def cU (l:aP):Int :=
 if l.numbers.all iE&&l.names.all jL&&(oG l.nots 40&&decide (l.numbers.length≤40)&&decide (l.names.length≤40)) then (if l.all.Nodup then 0 else 6) else 1
def HT:aD→Int→Int
 | [],n=>n
 | c::s,n=>if c.toNat < 48∨57 < c.toNat then -1 else HT s (10*n+(c.toNat - 48:Int))
def iF (s:aD):Int:=if s.length < 1∨9 < s.length∨(s.head?=some 48∧1 < s.length) then -1 else HT s 0
def oH (s:aD):bB:=if 0≤iF s then ⟨1,iF s⟩ else ⟨0,0⟩
def gL:List (List aD)→Int→List (aD×bB)
 | [],_=>[]
 | l::ls,i=>l.map (fun s=>(s,(⟨2,i⟩:bB)))++gL ls (i+1)
def gD (l:aP):List (aD×bB):=l.numbers.map (fun n=>(n.text,(⟨1,n.value⟩:bB)))++(gL l.names 0++l.nots.map (fun s=>(s,(⟨3,0⟩:bB))))
def JE (l:aP) (s:aD):bB:=(gI (gD l) s).getD (oH s)
def oI (l:aP) (t:List aD):List bB:=(t.map (JE l)).filter (fun m=>decide (m.kind≠0))
def nQ (s:bH):Bool:=(decide (s.kind=1)||decide (s.kind=2))&&In s.bJ 0 999999999&&In s.bY 0 999999999
def eI (l:List bH):Int:=if 20 < l.length then 3 else if l.all nQ then 0 else 1
def sw (x y:bB) (s:bH):Bool:=decide (x.kind=y.kind)&&decide (s.kind=x.kind)&&decide (s.bJ=x.value)&&decide (s.bY=y.value)
def kX (l:List bH) (x y:bB):Bool:=decide (x=y)||l.any (sw x y)
def jM (sw:List bH):List bB→List bB→Bool
 | [],[]=>true
 | a::l,b::m=>kX sw a b&&jM sw l m
 | _,_=>false
structure qI (l:aP):Prop where
 numbers:l.numbers.length≤45
 names:l.names.length≤45
 nots:l.nots.length≤45
 number:∀ n∈l.numbers,n.text.length≤40
 name:∀ x∈l.names,x.length≤8∧∀ s∈x,s.length≤40
 not_:∀ s∈l.nots,s.length≤40
def lT (w:cN):Bool:=eU w.text&&In w.speaker 0 999
def dA (r:aR):Bool:=r.words.all lT&&decide ((r.words.length:Int)≤80)&&In r.out 0 100000&&In r.within 0 100000
def eW (r:aR) (i j:Int):List aD:=((r.words.drop i.toNat).take (j.toNat - i.toNat)).map (·.text)
def rK (r:aR) (i m:Int):Bool:=decide (0≤i)&&match r.words[i.toNat]? with
 | some x=>decide (x.speaker=m)
 | none=>false
def gE (x y:aB):Bool :=
 if x.cut=0∧y.cut=0 then decide (x.aH=y.aH) else if x.cut=0 then decide (y.aH < x.aH∧x.aH < y.aH+y.cut) else if y.cut=0 then decide (x.aH < y.aH∧y.aH < x.aH+x.cut) else decide (x.aH < y.aH+y.cut∧y.aH < x.aH+x.cut)
def mP (x y:aB) (i j:Int):Bool:=if x.minute=y.minute then (if x.by_=y.by_ then decide (i < j) else decide (x.by_ < y.by_)) else decide (x.minute < y.minute)
def AK (l:aP) (sw:List bH):Bool:=(l.numbers.take 46).all (fun n=>decide (n.text.length≤40))&&(l.names.take 46).all (fun x=>iD x 8)&&(decide ((l.numbers.length:Int)≤45)&&decide ((l.names.length:Int)≤45)&&iD l.nots 45&&decide ((sw.length:Int)≤25))
def NI (r:aR) (q:List aB):Bool:=(r.words.take 86).all (fun w=>decide (w.text.length≤40))&&(q.take 26).all (fun x=>iD x.bK 12)&&(decide ((r.words.length:Int)≤85)&&decide ((q.length:Int)≤25))
def jS (l:aP) (sw:List bH):Int:=if cU l=0 then eI sw else cU l
def eO (l:aP) (sw:List bH) (r:aR) (q:List aB):Int:=if jS l sw=0 then (if dA r then (if 20 < q.length then 3 else 0) else 1) else jS l sw
def eB (l:List aB) (i k:Int):Bool:=match l[i.toNat]?,l[k.toNat]? with
 | some x,some y=>mP x y i k
 | _,_=>false
def iU (r:aR) (m:Int):Nat→Int→Bool
 | 0,_=>true
 | n+1,i=>rK r i m&&iU r m n (i+1)
def kL (l:aP) (sw:List bH) (r:aR) (q:aB):Int :=
 if q.aH < 0∨q.cut < 0∨(r.words.length:Int) - q.cut < q.aH then 2
 else if 8 < q.cut∨oG q.bK 8=false∨(q.cut=0∧(q.bK.length:Int)=0)∨¬(0≤q.by_∧q.by_≤999) then 1
 else if q.cut=0∧rK r (q.aH - 1) q.by_=false∧rK r q.aH q.by_=false then 5
 else if iU r q.by_ q.cut.toNat q.aH=false then 5
 else if q.minute < r.out∨r.out+r.within < q.minute then 11
 else if jM sw (oI l (eW r q.aH (q.aH+q.cut))) (oI l q.bK) then 0 else 9
end T4
namespace T4
open Go Go.Proofs Pk
@[simp] theorem LX (n a b:Int):AR n a b=some (In n a b):=by
 unfold AR In;by_cases h:a≤n <;> simp [h]
@[simp] theorem TE (n:Int):FC n=some (In n 0 999999999):=by simp [FC]
abbrev Sh {α:Type} (l:List α):Prop:=l.length≤1073741824
theorem e23 (l:List aD) (n:Int):KR l n=some (iD l n):=by
 unfold KR;have hl:aO (vK l) 0=some (if l.all (fun s=>decide (s.length≤40)) then .inl () else .inr false):=by
  refine iB l _ _ _ (fun i x hi hx=>?_) ?_
  ·unfold vK;rw [if_pos (by omega),hx,Option.bind_some];by_cases a:x.length≤40
   ·rw [if_neg (by omega)];simp [a]
   rw [if_pos (by omega)];simp [a]
  unfold vK;simp
 rw [hl];by_cases a:l.all (fun s=>decide (s.length≤40))
 ·simp [a,iD]
 simp only [iD];simp [a]
end T4
namespace T4
open Go Go.Proofs Pk
theorem q73 (l:List bH) (f:bH→Option Bool):PB l f=pY l f:=rfl
theorem q74 (l:List (List aD)) (f:List aD→Option Bool):HD l f=pY l f:=rfl
theorem q77 (l:List aD) (f:aD→Option Bool):xC l f=pY l f:=rfl
theorem q85 (l:List bW) (f:bW→Option Bool):HB l f=pY l f:=rfl
theorem YY (l:List UInt8) (f:Int→Option Bool):GZ l f=pY l (fun x=>f (x.toNat:Int)):=rfl
theorem YZ (l:List bH) (v:bH):HF l v=GU l v:=rfl
theorem RS (c:UInt8):xA (c.toNat:Int)=some (NH c):=by
 unfold xA NH;by_cases h:(33:Int)≤(c.toNat:Int)
 ·simp only [h,if_true,Option.bind_some];congr 1;rw [decide_eq_decide];omega
 simp only [h,if_false,Option.bind_some];congr 1;symm;rw [decide_eq_false_iff_not];omega
theorem ZA {s:aD} (h:Sh s):wN s=some (eU s):=by
 unfold wN;rw [LX,Option.bind_some];by_cases a:In (s.length:Int) 1 32=true
 ·rw [if_pos a,bA h,YY,eF NH (fun c _=>RS c)];simp [eU,a]
 rw [if_neg a];simp only [eU];simp [a]
theorem LY {l:List aD} (h:∀ s∈l,Sh s):xC l wN=some (l.all eU):=by
 rw [q77];exact eF eU (fun s hs=>ZA (h s hs))
theorem ZB {n:bW} (h:Sh n.text):xB n=some (iE n):=by
 unfold xB iE;rw [ZA h,Option.bind_some];cases eU n.text <;> simp
theorem ZC {l:List aD} (h:∀ s∈l,Sh s):xD l=some (jL l):=by
 unfold xD jL oG;rw [LX,Option.bind_some,LY h];by_cases a:In (l.length:Int) 1 5=true
 ·rw [if_pos a];have:l≠[]∧(l.length:Int)≤5:=by
   simp only [In,decide_eq_true_eq] at a;exact ⟨fun e=>by subst e;simp at a,a.2⟩
  simp [this.1,this.2]
 rw [if_neg a];simp only [In,decide_eq_true_eq] at a
 cases l with
 | nil=>simp
 | cons x l =>
  simp only [Option.bind_some,List.isEmpty_cons,Bool.not_false,Bool.true_and];congr 1;symm;rw [Bool.and_eq_false_iff];right;simp only [List.length_cons] at a ⊢;rw [decide_eq_false_iff_not];omega
theorem e75 (s:bH):IJ s=some (nQ s):=by
 unfold IJ nQ;rw [TE,TE];by_cases a:s.kind=1
 ·simp only [a];cases In s.bJ 0 999999999 <;> simp
 by_cases b:s.kind=2
 ·simp only [b];cases In s.bJ 0 999999999 <;> simp
 simp [a,b]
theorem e77 (l:List bH):PB l IJ=some (l.all nQ):=by rw [q73];exact eF nQ (fun s _=>e75 s)
theorem ZD (r:rules) (a b:bB):vM r a b=some (decide (a=b)||(decide (a.kind=b.kind)&&decide ((⟨a.kind,a.value,b.value⟩:bH)∈r.aT))):=by
 unfold vM;by_cases h:a=b
 ·simp [h]
 by_cases k:a.kind=b.kind
 ·rw [YZ,nK];simp [h,k]
 simp [h,k]
theorem xK (l:List bH) (a b:bB):kX l a b=(decide (a=b)||(decide (a.kind=b.kind)&&decide ((⟨a.kind,a.value,b.value⟩:bH)∈l))):=by
 unfold kX;congr 1;rw [Bool.eq_iff_iff];simp only [List.any_eq_true,sw,Bool.and_eq_true,decide_eq_true_eq];constructor
 ·rintro ⟨s,hs,⟨⟨k,h1⟩,h2⟩,h3⟩;refine ⟨k,?_⟩;cases s;simp only at h1 h2 h3;subst h1 h2 h3;exact hs
 rintro ⟨k,h⟩;exact ⟨_,h,⟨⟨k,rfl⟩,rfl⟩,rfl⟩
theorem RT (r:rules) (a b:bB):vM r a b=some (kX r.aT a b):=by rw [ZD,xK]
theorem e37 {l:List aD} (h:Sh l):LE l=some l:=by unfold LE;rw [bA (by simpa using h)];simp
end T4
namespace T4
open Go Go.Proofs Pk
end T4
namespace T4
open Go Go.Proofs Pk
theorem HU {l:aP} (h:qI l):(∀ n∈l.numbers,Sh n.text)∧(∀ x∈l.names,∀ s∈x,Sh s)∧(∀ s∈l.nots,Sh s) :=
 ⟨fun n hn=>Nat.le_trans (h.number n hn) (by decide),fun x hx s hs=>Nat.le_trans ((h.name x hx).2 s hs) (by decide),fun s hs=>Nat.le_trans (h.not_ s hs) (by decide)⟩
def JF (l:aP):Bool:=l.numbers.all iE&&l.names.all jL&&(oG l.nots 40&&decide (l.numbers.length≤40)&&decide (l.names.length≤40))
theorem RU (l:aP):cU l=if JF l then (if l.all.Nodup then 0 else 6) else 1:=rfl
theorem hZ {l:List (List aD)} (k:Nat) (h:∀ x∈l,x.length≤k):l.flatten.length≤k*l.length:=by
 induction l with
 | nil=>simp
 | cons x l ih =>
  have h1:=h x List.mem_cons_self;have h2:=ih (fun y hy=>h y (List.mem_cons_of_mem _ hy));simp only [List.flatten_cons,List.length_append,List.length_cons];rw [Nat.mul_succ];omega
end T4
namespace T4
open Go Go.Proofs Pk
theorem uC:∀ (l:aD) (a:Nat),HT l (a:Int)=if l.all rE then (gK l a:Int) else -1
 | [],a=>rfl
 | c::l,a=>by
  have ih:=uC l (10*a+(c.toNat - 48));simp only [HT,List.all_cons];by_cases h:rE c=true
  ·have h':=h;simp only [rE,decide_eq_true_eq] at h';rw [if_neg (by omega),show (10*(a:Int)+((c.toNat:Int) - 48))=((10*a+(c.toNat - 48):Nat):Int) by omega,ih];simp only [h,Bool.true_and];rfl
  have h':=h;simp only [rE,decide_eq_true_eq] at h';rw [if_pos (by omega)];simp [h]
theorem xL {u:Nat} (h:u≤999999999):iF (Lib.decDigits u)=u:=by
 have hl:=yJ (u:=u) (k:=9) (by omega) (by decide);have hne:=wX u;have hlen:¬(Lib.decDigits u).length < 1:=fun c=>hne (List.length_eq_zero_iff.1 (by omega));unfold iF;rw [if_neg]
 ·have:=uC (Lib.decDigits u) 0;rw [yH,if_pos rfl,yI] at this;exact this
 rintro (c | c | ⟨c,d⟩)
 ·exact hlen c
 ·omega
 rcases Nat.eq_zero_or_pos u with rfl | hu
 ·rw [Lib.decDigits] at d;simp at d
 exact BX hu c
theorem vZ {s:aD} (h:0≤iF s):∃ u:Nat,iF s=u∧u≤999999999∧s=Lib.decDigits u:=by
 unfold iF at h ⊢
 split at h
 ·omega
 rename_i hc
 rw [if_neg hc];have hd:=uC s 0;rw [show ((0:Nat):Int)=0 from rfl] at hd;rw [hd] at h ⊢
 split at h
 ·rename_i ha
  rw [if_pos ha];refine ⟨_,rfl,?_,?_⟩
  ·have:=yL s 0 ha;have h9:s.length≤9:=by omega
   have:=Nat.pow_le_pow_right (n:=10) (by decide) h9;have:(10:Nat) ^ 9=1000000000:=rfl;omega
  cases s with
  | nil=>simp at hc
  | cons c r =>
   by_cases h0:c=48
   ·subst h0;have hr:r=[]:=by
     cases r with
     | nil=>rfl
     | cons y r=>exact absurd (Or.inr (Or.inr ⟨rfl,by simp⟩)) hc
    subst hr;rw [show gK [48] 0=0 from rfl,Lib.decDigits];rfl
   exact (BY (c::r) (by simp) ha (by simpa using h0)).1.symm
 omega
def kM (t:List (aD×bB)) (s:aD):bB×Bool:=match gI t s with
 | some m=>(m,true)
 | none=>if 0≤iF s then (⟨1,iF s⟩,true) else (⟨0,0⟩,false)
theorem ZE (t:List (aD×bB)) {s:aD} (h:Sh s):CW t s=some (kM t s):=by
 unfold CW kM
 cases hk:gI t s with
 | some m=>simp
 | none =>
  simp only [Option.isSome_none,Bool.false_eq_true,if_false];unfold GW BK;rw [bA h,Option.bind_some];by_cases hd:0≤iF s
  ·obtain ⟨u,h1,h2,h3⟩:=vZ hd;have ha:lE s=((u:Int),false):=by unfold lE;rw [h3,BZ (by omega)]
   rw [if_pos hd,ha,h1];have hi:wY (u:Int)=some (Lib.itoa u):=by unfold wY xX;rw [bA (by omega)]
   have hI:Lib.itoa (u:Int)=s:=by rw [h3];unfold Lib.itoa;rw [if_neg (by omega)];rfl
   have hin:In (u:Int) 0 999999999=true:=by simp only [In,decide_eq_true_eq];omega
   simp only [TE,Option.bind_some,hi,hI,hin];simp
  rw [if_neg hd];rcases hA:lE s with ⟨v,b⟩
  cases b with
  | true=>simp
  | false =>
   simp only [TE,Option.bind_some,Bool.false_eq_true,if_false];by_cases hv:In v 0 999999999=true
   ·have hv':=hv;simp only [In,decide_eq_true_eq] at hv';have hi:wY v=some (Lib.itoa v):=by unfold wY xX;rw [bA (by omega)]
    rw [if_pos hv,hi];have:Lib.itoa v≠s:=by
     intro e;apply hd;rw [← e];unfold Lib.itoa;rw [if_neg (by omega),xL (by omega)];omega
    simp [this]
   rw [if_neg hv];simp
def nU (t:List (aD×bB)) (l:List aD):List bB:=(l.map (kM t)).filterMap (fun p=>if p.2 then some p.1 else none)
theorem oJ (t:List (aD×bB)):∀ (l:List aD) (a:List bB),l.foldl (fun a x=>if (kM t x).2 then a++[(kM t x).1] else a) a=a++nU t l
 | [],a=>by simp [nU]
 | x::l,a=>by
  rw [List.foldl_cons,oJ t l];by_cases h:(kM t x).2 <;> simp [nU,h]
theorem RV (t:List (aD×bB)) {l:List aD} (h:Sh l) (h2:∀ s∈l,Sh s):zP t l=some (nU t l):=by
 unfold zP;have hl:aO (qE l t) (0,([]:List bB))=some (l.foldl (fun a x=>if (kM t x).2 then a++[(kM t x).1] else a) []):=by
  refine jD l _ (fun a=>a) (fun i a=>a.length≤i) (fun i x a hi hx ha=>?_) (fun i x a hi hx ha=>?_) (fun a ha=>?_) (by simp)
  ·unfold qE;rw [if_pos (by simpa using hi),hx,Option.bind_some,ZE t (h2 x (List.mem_of_getElem? hx)),Option.bind_some];by_cases k:(kM t x).2=true
   ·rw [if_pos k,bA (by show _≤_;dsimp only;omega),Option.bind_some,if_pos k]
   rw [if_neg k,Option.bind_some,if_neg k]
  ·by_cases k:(kM t x).2=true
   ·rw [if_pos k];simp;omega
   rw [if_neg k];omega
  unfold qE;simp
 rw [hl,Option.bind_some,oJ];simp
theorem xM {l:aP} {s:aD} {m:bB} (h:gI (gD l) s=some m):m.kind≠0:=by
 have key:∀ (t:List (aD×bB)),(∀ p∈t,p.2.kind≠0)→gI t s=some m→m.kind≠0:=by
  intro t
  induction t with
  | nil=>intro _ h;cases h
  | cons p t ih =>
   intro hp h;simp only [gI] at h
   split at h
   ·cases h;exact hp p List.mem_cons_self
   exact ih (fun q hq=>hp q (List.mem_cons_of_mem _ hq)) h
 refine key _ ?_ h;have hn:∀ (ls:List (List aD)) (i:Int),∀ p∈gL ls i,p.2.kind≠0:=by
  intro ls
  induction ls with
  | nil=>intro i p hp;cases hp
  | cons x ls ih =>
   intro i p hp;simp only [gL,List.mem_append,List.mem_map] at hp;rcases hp with ⟨_,_,rfl⟩ | hp
   ·show (2:Int)≠0;decide
   exact ih _ p hp
 intro p hp;simp only [gD,List.mem_append,List.mem_map] at hp;rcases hp with ⟨_,_,rfl⟩ | hp | ⟨_,_,rfl⟩
 ·show (1:Int)≠0;decide
 ·exact hn _ _ p hp
 show (3:Int)≠0;decide
theorem sQ (l:aP) (t:List aD):nU (gD l) t=oI l t:=by
 unfold nU oI
 induction t with
 | nil=>rfl
 | cons s t ih =>
  simp only [List.map_cons,List.filterMap_cons,List.filter_cons,ih];unfold kM JE
  cases hk:gI (gD l) s with
  | some m=>simp [xM hk]
  | none =>
   simp only [Option.getD_none,oH];by_cases hd:0≤iF s <;> simp [hd]
end T4
namespace T4
open Go Go.Proofs Pk
theorem e5 (l:aP) (sw:List bH):m5 l sw=some (AK l sw):=by
 have h1:aO (CB l) 0=some (if (l.numbers.take 46).all (fun n=>decide (n.text.length≤40)) then .inl () else .inr false):=by
  refine kV l.numbers 46 _ _ _ (fun i x hi hk hx=>?_) (fun i hn=>?_)
  ·unfold CB;rw [if_pos (by omega),Option.bind_some,if_pos (by rw [decide_eq_true_iff];omega),hx,Option.bind_some];by_cases a:x.text.length≤40
   ·rw [if_neg (by omega),bA (by omega)];simp [a]
   rw [if_pos (by omega)];simp [a]
  unfold CB;by_cases a:i < l.numbers.length
  ·rw [if_pos (by omega),Option.bind_some,if_neg (by rw [decide_eq_true_iff];omega)]
  rw [if_neg (by omega)];rfl
 have h2:aO (CC l) 0=some (if (l.names.take 46).all (fun x=>iD x 8) then .inl () else .inr false):=by
  refine kV l.names 46 _ _ _ (fun i x hi hk hx=>?_) (fun i hn=>?_)
  ·unfold CC;rw [if_pos (by omega),Option.bind_some,if_pos (by rw [decide_eq_true_iff];omega),hx,Option.bind_some,e23,Option.bind_some,bA (by omega)];cases iD x 8 <;> simp
  unfold CC;by_cases a:i < l.names.length
  ·rw [if_pos (by omega),Option.bind_some,if_neg (by rw [decide_eq_true_iff];omega)]
  rw [if_neg (by omega)];rfl
 unfold m5 AK;rw [h1];by_cases a1:(l.numbers.take 46).all (fun n=>decide (n.text.length≤40))=true
 ·simp only [a1,if_true,Option.bind_some,h2];by_cases a2:(l.names.take 46).all (fun x=>iD x 8)=true
  ·simp only [a2,if_true,Option.bind_some,e23];by_cases a3:(l.numbers.length:Int)≤45
   ·by_cases a4:(l.names.length:Int)≤45
    ·cases iD l.nots 45 <;> simp [a3,a4]
    simp [a3,a4]
   simp [a3]
  simp [a2]
 simp [a1]
theorem nV (l:List aD) (n:Int):iD l n=true↔(∀ s∈l,s.length≤40)∧(l.length:Int)≤n:=by
 simp [iD]
theorem yP {l:aP} {sw:List bH} (h:AK l sw=true):qI l∧sw.length≤25:=by
 unfold AK at h;simp only [Bool.and_eq_true,decide_eq_true_eq] at h;obtain ⟨⟨h1,h2⟩,⟨⟨h3,h4⟩,h5⟩,h6⟩:=h;rw [nV] at h5;rw [List.take_of_length_le (by omega)] at h1 h2;simp only [List.all_eq_true,decide_eq_true_eq,nV] at h1 h2;exact ⟨⟨by omega,by omega,by omega,h1,fun x hx=>⟨by have:=(h2 x hx).2;omega,(h2 x hx).1⟩,h5.1⟩,by omega⟩
theorem e13 {l:aP} (h:qI l):PM l=some l:=by
 have h1:aO (sD l) (0,([]:List bW))=some l.numbers:=by
  have:=fA l.numbers (fun n=>n) (fun a=>a) (step:=sD l) (fun i x a hi hx ha=>?_) (fun a=>?_)
  ·rw [this];simp
  ·have:=h.numbers;unfold sD;rw [if_pos (by simpa using hi)];simp only [hx,Option.bind_some];rw [bA (by simp;omega)]
  unfold sD;simp
 have h2:aO (sF l) (0,([]:List (List aD)))=some l.names:=by
  have:=fA l.names (fun n=>n) (fun a=>a) (step:=sF l) (fun i x a hi hx ha=>?_) (fun a=>?_)
  ·rw [this];simp
  ·have:=h.names;have hx8:=(h.name x (List.mem_of_getElem? hx)).1;unfold sF;rw [if_pos (by simpa using hi)];simp only [hx,Option.bind_some];rw [e37 (by show _≤_;omega),Option.bind_some,bA (by simp;omega)]
  unfold sF;simp
 unfold PM;have:=h.nots;rw [e37 (by show _≤_;omega),Option.bind_some,h1,Option.bind_some,h2,Option.bind_some]
theorem e21 {l:List bH} (h:Sh l):PN l=some l:=by
 have h1:aO (sG l) (0,([]:List bH))=some l:=by
  have:=fA l (fun n=>n) (fun a=>a) (step:=sG l) (fun i x a hi hx ha=>?_) (fun a=>?_)
  ·rw [this];simp
  ·have h':l.length≤1073741824:=h;unfold sG;rw [if_pos (by simpa using hi)];simp only [hx,Option.bind_some];rw [bA (by simp;omega)]
  unfold sG;simp
 unfold PN;rw [h1];rfl
def dK:List (aD×bB)→List (aD×bB)→Option (List (aD×bB))
 | [],m=>some m
 | (k,v)::l,m=>if (gI m k).isSome then none else dK l (put m k v)
theorem fX:∀ (a b m:List (aD×bB)),dK (a++b) m=(dK a m).bind (dK b)
 | [],b,m=>rfl
 | (k,v)::a,b,m=>by
  simp only [List.cons_append,dK];by_cases h:(gI m k).isSome=true
  ·simp [h]
  simp only [h];exact fX a b _
theorem wA (m:List (aD×bB)) (k:aD):gI m k=none↔k∉m.map (·.1):=by
 induction m with
 | nil=>simp [gI]
 | cons p m ih =>
  simp only [gI,List.map_cons,List.mem_cons,not_or];by_cases h:k=p.1 <;> simp [h,ih]
theorem yQ:∀ (m:List (aD×bB)) (k:aD) (v:bB),gI m k=none→put m k v=m++[(k,v)]
 | [],k,v,_=>rfl
 | (k',v')::m,k,v,h=>by
  simp only [gI] at h
  split at h
  ·cases h
  rename_i hk
  simp only [put,if_neg hk,List.cons_append];rw [yQ m k v h]
theorem sR:∀ (l m:List (aD×bB)),(m.map (·.1)).Nodup→dK l m=if ((m++l).map (·.1)).Nodup then some (m++l) else none
 | [],m,h=>by simp only [dK];rw [if_pos (by simpa using h)];simp
 | (k,v)::l,m,h=>by
  simp only [dK]
  cases hk:gI m k with
  | some x =>
   have hm:k∈m.map (·.1):=by
    rw [← Decidable.not_not (p:=k∈m.map (·.1)),← wA,hk];simp
   rw [if_pos (by simp),if_neg];intro hn;rw [List.map_append,List.nodup_append] at hn;exact hn.2.2 k hm k (by simp) rfl
  | none =>
   rw [if_neg (by simp),yQ m k v hk,sR l _ ?_]
   ·simp
   rw [List.map_append,List.nodup_append];refine ⟨h,by simp,fun a ha b hb=>?_⟩;simp at hb;subst hb;rintro rfl;exact (wA m a).1 hk ha
theorem pE {α ε:Type} (key:α→aD) (val:α→bB) (E:List (aD×bB)→ε) (out:List (aD×bB)→ε):∀ (l:List α) (i:Nat) (a:List (aD×bB)),
  (∃ b,dK (l.map fun p=>(key p,val p)) a=some b∧BQ (fun _ x a=>if (gI a (key x)).isSome then .inr (E a) else .inl (put a (key x) (val x))) out l i a=out b) ∨
  (dK (l.map fun p=>(key p,val p)) a=none∧∃ b,BQ (fun _ x a=>if (gI a (key x)).isSome then .inr (E a) else .inl (put a (key x) (val x))) out l i a=E b)
 | [],i,a=>.inl ⟨a,rfl,rfl⟩
 | x::l,i,a=>by
  have ih:=pE key val E out l (i+1) (put a (key x) (val x));simp only [List.map_cons,dK,BQ];by_cases h:(gI a (key x)).isSome=true
  ·simp only [h,if_true];exact .inr ⟨trivial,a,rfl⟩
  simp only [h];exact ih
end T4
namespace T4
open Go Go.Proofs Pk
abbrev LL:=List (aD×bB)
theorem RW (l:aP):(∃ b,dK (l.numbers.map fun n=>(n.text,(⟨1,n.value⟩:bB))) []=some b∧aO (qB l) (0,[])=some (.inl b))∨(dK (l.numbers.map fun n=>(n.text,(⟨1,n.value⟩:bB))) []=none∧∃ b,aO (qB l) (0,[])=some (.inr (.inl (6,b)))):=by
 have h:=tW l.numbers (fun _ x a=>if (gI a x.text).isSome then .inr (.inr (.inl (6,a))) else .inl (put a x.text (⟨1,x.value⟩:bB))) (fun a=>(.inl a:LL⊕((Nat×LL)⊕LL))) (fun _ _=>True) (step:=qB l) (fun i x a hi hx _=>?_) (fun _ _ _ _ _ _ _ _=>trivial) (fun a _=>?_) (a0:=[]) trivial
 ·rcases pE (fun n:bW=>n.text) (fun n=>(⟨1,n.value⟩:bB)) (fun a=>(.inr (.inl (6,a)):LL⊕((Nat×LL)⊕LL))) (fun a=>.inl a) l.numbers 0 [] with ⟨b,h1,h2⟩ | ⟨h1,b,h2⟩
  ·exact .inl ⟨b,h1,by rw [h,h2]⟩
  exact .inr ⟨h1,b,by rw [h,h2]⟩
 ·unfold qB;rw [if_pos (by simpa using hi)];simp only [hx,Option.bind_some];by_cases k:(gI a x.text).isSome=true <;> simp [k]
 unfold qB;simp
theorem RX (l:aP) (a0:LL):(∃ b,dK (l.nots.map fun n=>(n,(⟨3,0⟩:bB))) a0=some b∧aO (qD l) (0,a0)=some (.inl b))∨(dK (l.nots.map fun n=>(n,(⟨3,0⟩:bB))) a0=none∧∃ b,aO (qD l) (0,a0)=some (.inr (.inl (6,b)))):=by
 have h:=tW l.nots (fun _ x a=>if (gI a x).isSome then .inr (.inr (.inl (6,a))) else .inl (put a x (⟨3,0⟩:bB))) (fun a=>(.inl a:LL⊕((Nat×LL)⊕LL))) (fun _ _=>True) (step:=qD l) (fun i x a hi hx _=>?_) (fun _ _ _ _ _ _ _ _=>trivial) (fun a _=>?_) (a0:=a0) trivial
 ·rcases pE (fun n:aD=>n) (fun n=>(⟨3,0⟩:bB)) (fun a=>(.inr (.inl (6,a)):LL⊕((Nat×LL)⊕LL))) (fun a=>.inl a) l.nots 0 a0 with ⟨b,h1,h2⟩ | ⟨h1,b,h2⟩
  ·exact .inl ⟨b,h1,by rw [h,h2]⟩
  exact .inr ⟨h1,b,by rw [h,h2]⟩
 ·unfold qD;rw [if_pos (by simpa using hi)];simp only [hx,Option.bind_some];by_cases k:(gI a x).isSome=true <;> simp [k]
 unfold qD;simp
theorem RY (x:List aD) (s:Nat×LL) (a0:LL):(∃ b,dK (x.map fun n=>(n,(⟨2,(s.1:Int)⟩:bB))) a0=some b∧aO (qC x s) (0,a0)=some (.inl b))∨(dK (x.map fun n=>(n,(⟨2,(s.1:Int)⟩:bB))) a0=none∧∃ b,aO (qC x s) (0,a0)=some (.inr (.inr (.inr (.inl (6,b)))))):=by
 have h:=tW x (fun _ x a=>if (gI a x).isSome then .inr (.inr (.inr (.inr (.inl (6,a))))) else .inl (put a x (⟨2,(s.1:Int)⟩:bB))) (fun a=>.inl a) (fun _ _=>True) (step:=qC x s) (fun i x a hi hx _=>?_) (fun _ _ _ _ _ _ _ _=>trivial) (fun a _=>?_) (a0:=a0) trivial
 ·rcases pE (fun n:aD=>n) (fun n=>(⟨2,(s.1:Int)⟩:bB)) (fun a=>(.inr (.inr (.inr (.inl (6,a)))):LL⊕((Nat×LL)⊕(LL⊕((Nat×LL)⊕LL))))) (fun a=>.inl a) x 0 a0 with ⟨b,h1,h2⟩ | ⟨h1,b,h2⟩
  ·exact .inl ⟨b,h1,by rw [h,h2]⟩
  exact .inr ⟨h1,b,by rw [h,h2]⟩
 ·unfold qC;rw [if_pos (by simpa using hi)];simp only [hx,Option.bind_some];by_cases k:(gI a x).isSome=true <;> simp [k]
 unfold qC;simp
theorem RZ (l:aP) (a0:LL):(∃ b,dK (gL l.names 0) a0=some b∧aO (lH l) (0,a0)=some (.inl b))∨(dK (gL l.names 0) a0=none∧∃ b,aO (lH l) (0,a0)=some (.inr (.inl (6,b)))):=by
 have key:∀ (k i:Nat) (a:LL),l.names.length - i=k→i≤l.names.length→(∃ b,dK (gL (l.names.drop i) i) a=some b∧aO (lH l) (i,a)=some (.inl b))∨(dK (gL (l.names.drop i) i) a=none∧∃ b,aO (lH l) (i,a)=some (.inr (.inl (6,b)))):=by
  intro k
  induction k with
  | zero =>
   intro i a hk hi;obtain rfl:i=l.names.length:=by omega
   refine .inl ⟨a,by simp [gL,dK],bX ?_⟩;unfold lH;simp
  | succ k ih =>
   intro i a hk hi;have hlt:i < l.names.length:=by omega
   have hx:l.names[i]?=some l.names[i]:=List.getElem?_eq_getElem hlt;rw [List.drop_eq_getElem_cons hlt];simp only [gL,fX];rcases RY l.names[i] (i,a) a with ⟨b,h1,h2⟩ | ⟨h1,b,h2⟩
   ·simp only at h1;rw [h1,Option.bind_some];have hs:lH l (i,a)=some (.inl (i+1,b)):=by
     unfold lH;rw [if_pos (by simpa using hlt)];simp only [hx,Option.bind_some,h2]
    rw [cB hs];exact ih (i+1) b (by omega) (by omega)
   simp only at h1;refine .inr ⟨by rw [h1];rfl,b,bX ?_⟩;unfold lH;rw [if_pos (by simpa using hlt)];simp only [hx,Option.bind_some,h2]
 have:=key l.names.length 0 a0 (by omega) (by omega);simpa using this
theorem qJ:∀ (ls:List (List aD)) (i:Int),(gL ls i).map (·.1)=ls.flatten
 | [],_=>rfl
 | l::ls,i=>by simp [gL,qJ ls,Function.comp_def]
theorem xN (l:aP):(gD l).map (·.1)=l.all:=by
 simp [gD,aP.all,qJ,Function.comp_def]
theorem e74 {l:aP} (h:qI l):PA l=some (if cU l=0 then (gD l,0) else ([],cU l)):=by
 obtain ⟨s1,s2,s3⟩:=HU h;have hins:dK (gD l) []=if l.all.Nodup then some (gD l) else none:=by
  rw [sR _ _ (by simp),← xN];simp
 unfold PA;rw [RU];unfold JF oG;rw [q85,eF iE (fun n hn=>ZB (s1 n hn)),q74,eF jL (fun x hx=>ZC (s2 x hx)),LY s3];have t1:decide ((l.nots.length:Int)≤40)=decide (l.nots.length≤40):=by rw [decide_eq_decide];omega
 have c1:((l.numbers.length:Int)≤40)=(l.numbers.length≤40):=propext (by omega);have c2:((l.names.length:Int)≤40)=(l.names.length≤40):=propext (by omega);rw [t1];simp only [c1,c2];by_cases hok:l.numbers.all iE=true∧l.names.all jL=true∧l.nots.all eU=true∧l.numbers.length≤40∧l.names.length≤40∧l.nots.length≤40
 ·obtain ⟨a1,a2,a3,b1,b2,b3⟩:=hok;simp only [a1,a2,a3,b1,b2,b3,if_true,decide_true,Option.bind_some,Bool.not_true,Bool.false_eq_true,if_false,Bool.and_self];unfold gD at hins;rw [fX] at hins;rcases RW l with ⟨b,h1,h2⟩ | ⟨h1,b,h2⟩
  ·rw [h1,Option.bind_some,fX] at hins;rw [h2];simp only [Option.bind_some];rcases RZ l b with ⟨b2,h3,h4⟩ | ⟨h3,b2,h4⟩
   ·rw [h3,Option.bind_some] at hins;simp only [h4,Option.bind_some];rcases RX l b2 with ⟨b3,h5,h6⟩ | ⟨h5,b3,h6⟩
    ·rw [h5] at hins;simp only [h6,Option.bind_some];by_cases hn:l.all.Nodup
     ·rw [if_pos hn] at hins;cases hins;simp [hn];rfl
     rw [if_neg hn] at hins;cases hins
    rw [h5] at hins;simp only [h6,Option.bind_some];by_cases hn:l.all.Nodup
    ·rw [if_pos hn] at hins;cases hins
    simp [hn]
   rw [h3] at hins;simp only [h4,Option.bind_some];by_cases hn:l.all.Nodup
   ·rw [if_pos hn] at hins;cases hins
   simp [hn]
  rw [h1] at hins;rw [h2];simp only [Option.bind_some];by_cases hn:l.all.Nodup
  ·rw [if_pos hn] at hins;cases hins
  simp [hn]
 cases a1:l.numbers.all iE <;> cases a2:l.names.all jL <;> cases a3:l.nots.all eU <;> by_cases b1:l.numbers.length≤40 <;> by_cases b2:l.names.length≤40 <;> by_cases b3:l.nots.length≤40 <;> simp [b1,b2,b3];exact absurd ⟨a1,a2,a3,b1,b2,b3⟩ hok
theorem e48 {l:aP} (h:qI l) (sw:List bH):MN l sw=some (if jS l sw=0 then ((⟨gD l,sw⟩:rules),0) else ((⟨[],[]⟩:rules),jS l sw)):=by
 unfold MN jS eI;rw [e74 h,Option.bind_some,e77];by_cases a:cU l=0
 ·simp only [a,if_true];rw [if_neg (by simp)];by_cases b:20 < sw.length
  ·rw [if_pos (by omega)];simp [b]
  rw [if_neg (by omega),Option.bind_some];simp only [b,if_false];by_cases c:sw.all nQ=true <;> simp [c]
 simp only [a,if_false];rw [if_pos a]
end T4
namespace T4
open Go Go.Proofs Pk
end T4
namespace T4
open Go Go.Proofs Pk
theorem LZ {r:aR} (h:∀ x∈r.words,x.text.length≤40):∀ x∈r.words,Sh x.text:=fun x hx=>Nat.le_trans (h x hx) (by decide)
theorem e78 {w:cN} (h:Sh w.text):LA w=some (lT w):=by
 unfold LA lT;rw [ZA h,Option.bind_some,LX];cases eU w.text <;> simp
theorem q92 (l:List cN) (f:cN→Option Bool):PC l f=pY l f:=rfl
theorem ZF (l:List cN) (f:cN→Option Bool):CV l f=BT l f:=rfl
theorem ZG (l:List aB) (f:aB→Option Bool):HH l f=BT l f:=rfl
theorem e49 {r:aR} (h:∀ x∈r.words,Sh x.text):MO r=some (if dA r then 0 else 1):=by
 unfold MO dA;rw [q92,eF lT (fun w hw=>e78 (h w hw)),LX,LX];by_cases a:80 < r.words.length
 ·rw [if_pos (by omega),Option.bind_some,if_pos rfl];have:decide ((r.words.length:Int)≤80)=false:=by rw [decide_eq_false_iff_not];omega
  simp [this]
 rw [if_neg (by omega)];have:decide ((r.words.length:Int)≤80)=true:=by rw [decide_eq_true_iff];omega
 rw [this];cases r.words.all lT <;> cases In r.out 0 100000 <;> cases In r.within 0 100000 <;> simp
theorem e14 {r:aR} (h:r.words.length≤1000000):PO r=some r:=by
 have h1:aO (sH r) (0,([]:List cN))=some r.words:=by
  have:=fA r.words (fun n=>n) (fun a=>a) (step:=sH r) (fun i x a hi hx ha=>?_) (fun a=>?_)
  ·rw [this];simp
  ·unfold sH;rw [if_pos (by simpa using hi)];simp only [hx,Option.bind_some];rw [bA (by simp;omega)]
  unfold sH;simp
 unfold PO;rw [h1];rfl
theorem e15 {q:List aB} (h:q.length≤1000000) (h2:∀ x∈q,Sh x.bK):m15 q=some q:=by
 have h1:aO (sI q) (0,([]:List aB))=some q:=by
  have:=fA q (fun n=>n) (fun a=>a) (step:=sI q) (fun i x a hi hx ha=>?_) (fun a=>?_)
  ·rw [this];simp
  ·unfold sI;rw [if_pos (by simpa using hi)];simp only [hx,Option.bind_some];rw [e37 (h2 x (List.mem_of_getElem? hx)),Option.bind_some,bA (by simp;omega)]
  unfold sI;simp
 unfold m15;rw [h1];rfl
theorem e6 (r:aR) (q:List aB):m6 r q=some (NI r q):=by
 have h1:aO (CD r) 0=some (if (r.words.take 86).all (fun w=>decide (w.text.length≤40)) then .inl () else .inr false):=by
  refine kV r.words 86 _ _ _ (fun i x hi hk hx=>?_) (fun i hn=>?_)
  ·unfold CD;rw [if_pos (by omega),Option.bind_some,if_pos (by rw [decide_eq_true_iff];omega),hx,Option.bind_some];by_cases a:x.text.length≤40
   ·rw [if_neg (by omega),bA (by omega)];simp [a]
   rw [if_pos (by omega)];simp [a]
  unfold CD;by_cases a:i < r.words.length
  ·rw [if_pos (by omega),Option.bind_some,if_neg (by rw [decide_eq_true_iff];omega)]
  rw [if_neg (by omega)];rfl
 have h2:aO (CE q) 0=some (if (q.take 26).all (fun x=>iD x.bK 12) then .inl () else .inr false):=by
  refine kV q 26 _ _ _ (fun i x hi hk hx=>?_) (fun i hn=>?_)
  ·unfold CE;rw [if_pos (by omega),Option.bind_some,if_pos (by rw [decide_eq_true_iff];omega),hx,Option.bind_some,e23,Option.bind_some,bA (by omega)];cases iD x.bK 12 <;> simp
  unfold CE;by_cases a:i < q.length
  ·rw [if_pos (by omega),Option.bind_some,if_neg (by rw [decide_eq_true_iff];omega)]
  rw [if_neg (by omega)];rfl
 unfold m6 NI;rw [h1];by_cases a1:(r.words.take 86).all (fun w=>decide (w.text.length≤40))=true
 ·simp only [a1,if_true,Option.bind_some,h2];by_cases a2:(q.take 26).all (fun x=>iD x.bK 12)=true
  ·simp only [a2,if_true,Option.bind_some];by_cases a3:(r.words.length:Int)≤85 <;> simp [a3]
  simp [a2]
 simp [a1]
structure RQ (r:aR) (q:List aB):Prop where
 words1:r.words.length≤85
 words2:∀ x∈r.words,x.text.length≤40
 req1:q.length≤25
 req2:∀ x∈q,x.bK.length≤12∧∀ s∈x.bK,s.length≤40
theorem MA {r:aR} {q:List aB} (h:NI r q=true):RQ r q:=by
 unfold NI at h;simp only [Bool.and_eq_true,decide_eq_true_eq] at h;obtain ⟨⟨h1,h2⟩,h3,h4⟩:=h;rw [List.take_of_length_le (by omega)] at h1 h2;simp only [List.all_eq_true,decide_eq_true_eq,nV] at h1 h2;exact ⟨by omega,h1,by omega,fun x hx=>⟨by have:=(h2 x hx).2;omega,(h2 x hx).1⟩⟩
def ready (l:aP) (sw:List bH) (r:aR) (q:List aB):Bool:=AK l sw&&NI r q&&decide (eO l sw r q=0)
theorem pG (r:aR) (i j:Int):eW r i j=((r.words.drop i.toNat).take (j.toNat - i.toNat)).map (·.text):=rfl
theorem mQ (r:aR) (i j:Int):(eW r i j).length≤r.words.length:=by rw [pG];simp;omega
theorem wB {r:aR} {i j:Int} {s:aD} (h:s∈eW r i j):∃ x∈r.words,x.text=s:=by
 rw [pG,List.mem_map] at h;obtain ⟨x,hx,rfl⟩:=h;exact ⟨x,List.mem_of_mem_drop (List.mem_of_mem_take hx),rfl⟩
theorem e34 {r:aR} {i j:Int} (h0:0≤i) (h1:i≤j) (h2:j≤r.words.length) (h3:r.words.length≤1000000):HE r i j=some (eW r i j):=by
 have hl:aO (sA r i j) (0,([]:List aD))=some (eW r i j):=by
  refine fA _ (fun w:cN=>w.text) (fun a=>a) (step:=sA r i j) (fun k x a hi hx ha=>?_) (fun a=>?_)
  ·have:((r.words.drop i.toNat).take (j.toNat - i.toNat)).length≤r.words.length:=by simp;omega
   unfold sA;rw [if_pos (by simp at hi ⊢;omega)];simp only [hx,Option.bind_some];rw [bA (by simp;omega)]
  unfold sA;simp
 unfold HE;rw [bA h0,bA (by omega),bA (by omega),hl];rfl
abbrev dN (r:aR) (q:aB):Prop:=0≤q.aH∧0≤q.cut∧q.aH≤(r.words.length:Int) - q.cut
theorem ZH {r:aR} {q:aB} (h:dN r q) (h2:r.words.length≤1000000):AS q=some (q.aH+q.cut):=by
 obtain ⟨a,b,c⟩:=h;unfold AS;rw [bA (by omega)]
theorem e84 (d:cK) (q:aB) (h:d.report.words.length≤1000000) (h0:q.cut≤9223372036854775807):PF d q=some (decide (0≤q.aH∧0≤q.cut∧q.aH≤(d.report.words.length:Int) - q.cut)):=by
 unfold PF;by_cases a:0≤q.aH
 ·by_cases b:0≤q.cut
  ·simp only [a,b,if_true];rw [bA (by omega)];simp
  simp [a,b]
 simp [a]
def fF (q:aB):Bool:=decide (q.cut≤8)&&decide ((q.bK.length:Int)≤8)&&q.bK.all eU&&decide (0 < q.cut+(q.bK.length:Int))&&In q.by_ 0 999
theorem e85 (d:cK) {q:aB} (h:0≤q.cut) (h2:∀ s∈q.bK,Sh s):PG d q=some (fF q):=by
 unfold PG fF;rw [LY h2,LX];by_cases a:q.cut≤8
 ·by_cases b:(q.bK.length:Int)≤8
  ·simp only [a,b,if_true,Option.bind_some,decide_true,Bool.true_and];cases q.bK.all eU
   ·simp
   simp only [if_true,Bool.true_and];rw [bA (by omega)];by_cases c:0 < q.cut+(q.bK.length:Int) <;> simp [c]
  simp [a,b]
 simp [a]
end T4
namespace T4
open Go Go.Proofs Pk
theorem mR (sw:List bH):∀ (a b:List bB),BV (kX sw) a b=jM sw a b
 | [],[]=>rfl
 | x::a,y::b=>by simp only [BV,jM,mR sw a b]
 | [],_::_=>rfl
 | _::_,[]=>rfl
theorem ZI (a b:List bB) (f:bB→bB→Option Bool):HG a b f=KM a b f:=rfl
theorem ZJ (r:rules) (a b:List bB):CZ r a b=some (jM r.aT a b):=by
 unfold CZ;rw [ZI,zN (kX r.aT) (fun x _ y _=>RT r x y),mR];rfl
theorem wC (r:aR) (i m:Int):rK r i m=(decide (0≤i)&&((r.words[i.toNat]?).map (fun w=>decide (w.speaker=m))).getD false):=by
 unfold rK;cases r.words[i.toNat]? <;> rfl
theorem qK (r:aR) (m:Int):∀ (n:Nat) (i:Int),0≤i→i.toNat+n≤r.words.length→iU r m n i=((r.words.drop i.toNat).take n).all (fun w=>decide (w.speaker=m))
 | 0,i,_,_=>by simp [iU]
 | n+1,i,h0,h1=>by
  have hlt:i.toNat < r.words.length:=by omega
  simp only [iU];rw [qK r m n (i+1) (by omega) (by omega),List.drop_eq_getElem_cons hlt,List.take_succ_cons,List.all_cons,show (i+1).toNat=i.toNat+1 by omega];congr 1;unfold rK;rw [List.getElem?_eq_getElem hlt];simp [h0]
def wD (r:aR) (q:aB):Bool:=if q.cut=0 then rK r (q.aH - 1) q.by_||rK r q.aH q.by_ else iU r q.by_ q.cut.toNat q.aH
theorem SA (w:cN) (q:aB):tY w q=some (decide (w.speaker=q.by_)):=rfl
theorem e86 {d:cK} {q:aB} (h:dN d.report q) (h2:d.report.words.length≤1000000):PH d q=some (wD d.report q):=by
 obtain ⟨a,b,c⟩:=id h;unfold PH wD;by_cases k:0 < q.cut
 ·rw [if_pos k,ZH h h2,Option.bind_some,bA a,bA (by omega),bA (by omega),q92,eF (fun w=>decide (w.speaker=q.by_)) (fun w _=>SA w q),Option.bind_some,if_neg (by omega),qK _ _ _ _ a (by omega)];rw [show (q.aH+q.cut).toNat - q.aH.toNat=q.cut.toNat by omega]
 have k0:q.cut=0:=by omega
 rw [if_neg k,if_pos k0];rw [bA (by omega),bA (by omega),bA (by omega),bA (by omega),ZF,nJ (fun w=>decide (w.speaker=q.by_)) (fun w _=>SA w q),Option.bind_some];congr 1;rw [wC,wC];by_cases hf:0 < q.aH
 ·have h1:(max 0 (q.aH - 1)).toNat=q.aH.toNat - 1:=by omega
  have hlt:q.aH.toNat - 1 < d.report.words.length:=by omega
  have d1:decide (0≤q.aH - 1)=true:=by rw [decide_eq_true_iff];omega
  have d2:decide (0≤q.aH)=true:=by rw [decide_eq_true_iff];omega
  rw [h1,d1,d2,Bool.true_and,Bool.true_and,show (q.aH - 1).toNat=q.aH.toNat - 1 by omega,List.getElem?_eq_getElem hlt,List.drop_eq_getElem_cons hlt];by_cases e:q.aH.toNat < d.report.words.length
  ·rw [show (min (d.report.words.length:Int) (q.aH+1)).toNat - (q.aH.toNat - 1)=2 by omega,show q.aH.toNat - 1+1=q.aH.toNat by omega,List.drop_eq_getElem_cons e,List.getElem?_eq_getElem e];simp only [List.take_succ_cons,List.take_zero,List.any_cons,List.any_nil,Bool.or_false,Option.map_some,Option.getD_some]
  rw [show (min (d.report.words.length:Int) (q.aH+1)).toNat - (q.aH.toNat - 1)=1 by omega,List.getElem?_eq_none (by omega)];simp only [List.take_succ_cons,List.take_zero,List.any_cons,List.any_nil,Bool.or_false,Option.map_some,Option.map_none,Option.getD_some,Option.getD_none]
 have hz:q.aH=0:=by omega
 rw [hz];have h1:(max (0:Int) (0 - 1)).toNat=0:=by decide
 rw [h1];by_cases e:0 < d.report.words.length
 ·rw [show (min (d.report.words.length:Int) (0+1)).toNat - 0=1 by omega,show (0:Int).toNat=0 from rfl,List.getElem?_eq_getElem e];rw [List.drop_eq_getElem_cons e];simp
 have:d.report.words=[]:=List.length_eq_zero_iff.1 (by omega);simp [this]
end T4
namespace T4
open Go Go.Proofs Pk
abbrev lK (q:aB):Prop:=-9223372036854775808≤q.aH+q.cut∧q.aH+q.cut≤9223372036854775807
theorem qL {r:aR} {q:aB} (h:dN r q) (h2:r.words.length≤1000000):lK q:=by
 obtain ⟨a,b,c⟩:=h;unfold lK;omega
theorem MB {q:aB} (h:lK q):AS q=some (q.aH+q.cut):=by unfold AS;rw [bA h]
theorem MC:∀ (n:Nat) {a b:aB},lK a→lK b→(gO n a b=none∨gO n a b=some (gE a b))∧(2≤n→gO n a b=some (gE a b))∧((a.cut=0∨b.cut≠0)→1≤n→gO n a b=some (gE a b))
 | 0,a,b,_,_=>⟨.inl rfl,by omega,by omega⟩
 | n+1,a,b,ha,hb=>by
  by_cases k1:a.cut=0
  ·have:gO (n+1) a b=some (gE a b):=by
    unfold gO gE;by_cases k2:b.cut=0
    ·simp [k1,k2]
    simp only [k1,k2,if_true,if_false,and_false,Option.bind_some,decide_false,Bool.false_eq_true,MB hb];by_cases k3:b.aH < a.aH <;> simp [k3]
   exact ⟨.inr this,fun _=>this,fun _ _=>this⟩
  by_cases k2:b.cut=0
  ·have ih:=MC n hb ha;have hm:gE b a=gE a b:=by
    unfold gE;simp [k1,k2]
   have hs:gO (n+1) a b=(gO n b a).bind fun r=>some r:=by
    rw [gO];simp [k1,k2]
   rw [hs,GR];rw [hm] at ih;refine ⟨ih.1,fun h=>ih.2.2 (.inl k2) (by omega),?_⟩;rintro (h | h)
   ·exact absurd h k1
   exact absurd k2 h
  have:gO (n+1) a b=some (gE a b):=by
   unfold gO gE;simp only [k1,k2,if_false,false_and,Option.bind_some,Bool.false_eq_true,MB ha,MB hb];by_cases k3:a.aH < b.aH+b.cut <;> simp [k3]
  exact ⟨.inr this,fun _=>this,fun _ _=>this⟩
theorem ZK {a b:aB} (ha:lK a) (hb:lK b):zQ a b=some (gE a b):=by
 unfold zQ;refine GH 2 ((MC 2 ha hb).2.1 (by omega)) (fun m r' h=>?_);rcases (MC m ha hb).1 with h1 | h1
 ·rw [h1] at h;cases h
 rw [h1] at h;cases h;rfl
theorem e89 {d:cK} {q:aB} (hq:lK q) (ha:∀ x∈d.gH,lK x):PK d q=some (!d.gH.any (gE q)):=by
 unfold PK;rw [ZG,nJ (gE q) (fun x hx=>ZK hq (ha x hx))];rfl
theorem e87 {d:cK} (q:aB) (h:0≤d.report.out∧d.report.out≤100000) (h2:0≤d.report.within∧d.report.within≤100000):PI d q=some (In q.minute d.report.out (d.report.out+d.report.within)):=by
 unfold PI;rw [bA (by omega),LX];rfl
def wE (l:aP) (sw:List bH) (r:aR) (q:aB):Bool:=jM sw (oI l (eW r q.aH (q.aH+q.cut))) (oI l q.bK)
theorem e88 {d:cK} {l:aP} {q:aB} (hd:d.rules.fT=gD l) (h:dN d.report q) (h2:d.report.words.length≤1000000) (h3:∀ x∈d.report.words,Sh x.text) (h4:Sh q.bK) (h5:∀ s∈q.bK,Sh s):PJ d q=some (wE l d.rules.aT d.report q):=by
 obtain ⟨a,b,c⟩:=id h;unfold PJ wE;rw [ZH h h2,Option.bind_some,e34 a (by omega) (by omega) h2,Option.bind_some,hd,RV,Option.bind_some,RV _ h4 h5,Option.bind_some,ZJ,sQ,sQ]
 ·rfl
 ·have:=mQ d.report q.aH (q.aH+q.cut);show _≤_;omega
 intro s hs;obtain ⟨x,hx,rfl⟩:=wB hs;exact h3 x hx
end T4
namespace T4
open Go Go.Proofs Pk
def lD (l:aP) (sw:List bH) (r:aR) (acc:List aB) (q:aB):Int:=if kL l sw r q≠0 then kL l sw r q else if acc.any (gE q) then 6 else 0
theorem kN (l:aP) (sw:List bH) (r:aR) (q:aB):kL l sw r q =
  if ¬dN r q then 2 else if fF q=false then 1 else if wD r q=false then 5 else if In q.minute r.out (r.out+r.within)=false then 11 else if wE l sw r q then 0 else 9:=by
 unfold kL;by_cases hin:dN r q
 ·have hin':=hin;obtain ⟨a,b,c⟩:=hin';have nin:¬ ¬dN r q:=fun h=>h hin;rw [if_neg (show ¬(q.aH < 0∨q.cut < 0∨(r.words.length:Int) - q.cut < q.aH) by omega),if_neg nin];have hp:(8 < q.cut∨oG q.bK 8=false∨(q.cut=0∧(q.bK.length:Int)=0)∨¬(0≤q.by_∧q.by_≤999))↔fF q=false:=by
   unfold fF oG In;simp only [Bool.and_eq_false_iff,decide_eq_false_iff_not];constructor
   ·rintro (h | (h | h) | h | h)
    ·exact .inl (.inl (.inl (.inl (by omega))))
    ·exact .inl (.inl (.inr h))
    ·exact .inl (.inl (.inl (.inr (by omega))))
    ·exact .inl (.inr (by omega))
    exact .inr h
   rintro ((((h | h) | h) | h) | h)
   ·exact .inl (by omega)
   ·exact .inr (.inl (.inr (by omega)))
   ·exact .inr (.inl (.inl h))
   ·exact .inr (.inr (.inl (by omega)))
   exact .inr (.inr (.inr h))
  by_cases hpr:fF q=false
  ·rw [if_pos (hp.2 hpr),if_pos hpr]
  rw [if_neg (fun h=>hpr (hp.1 h)),if_neg hpr];by_cases hw:wD r q=false
  ·rw [if_pos hw];unfold wD at hw;by_cases k:q.cut=0
   ·rw [if_pos k,Bool.or_eq_false_iff] at hw;rw [if_pos ⟨k,hw⟩]
   rw [if_neg k] at hw;rw [if_neg (fun h=>k h.1),if_pos hw]
  rw [if_neg hw];unfold wD at hw;have h1:¬(q.cut=0∧rK r (q.aH - 1) q.by_=false∧rK r q.aH q.by_=false):=by
   rintro ⟨k,h2,h3⟩;rw [if_pos k,h2,h3] at hw;exact hw rfl
  have h2:¬iU r q.by_ q.cut.toNat q.aH=false:=by
   by_cases k:q.cut=0
   ·rw [k];simp [iU]
   rw [if_neg k] at hw;exact hw
  rw [if_neg h1,if_neg h2];by_cases ht:In q.minute r.out (r.out+r.within)=false
  ·rw [if_pos ht,if_pos];simp only [In,decide_eq_false_iff_not] at ht;omega
  rw [if_neg ht,if_neg]
  ·rfl
  rw [Bool.not_eq_false] at ht;simp only [In,decide_eq_true_eq] at ht;omega
 rw [if_pos hin,if_pos];unfold dN at hin;omega
theorem mT {l:aP} {sw:List bH} {r:aR} {q:aB} (h:kL l sw r q=0):dN r q:=by
 rw [kN] at h;by_cases hin:dN r q
 ·exact hin
 rw [if_pos hin] at h;cases h
structure SB (r:aR) (q:List aB):Prop where
 w1:r.words.length≤85
 w2:∀ x∈r.words,Sh x.text
 out:0≤r.out∧r.out≤100000
 within:0≤r.within∧r.within≤100000
 q1:q.length≤25
 q2:∀ x∈q,Sh x.bK∧(∀ s∈x.bK,Sh s)∧x.cut≤9223372036854775807
theorem e53 {l:aP} {sw:List bH} {d:cK} {q:aB} (h1:d.report.words.length≤85) (h2:∀ x∈d.report.words,Sh x.text) (h3:0≤d.report.out∧d.report.out≤100000) (h4:0≤d.report.within∧d.report.within≤100000)
  (h5:Sh q.bK∧(∀ s∈q.bK,Sh s)∧q.cut≤9223372036854775807) (hd:d.rules=⟨gD l,sw⟩) (ha:∀ x∈d.gH,lK x):MR d q=some (lD l sw d.report d.gH q):=by
 unfold MR lD;rw [kN,e84 _ _ (by omega) h5.2.2,Option.bind_some];by_cases hin:dN d.report q
 ·have nin:¬ ¬dN d.report q:=fun h=>h hin;rw [if_neg nin];have hin':=hin;unfold dN at hin';rw [if_pos (by rw [decide_eq_true_iff];exact hin'),e85 _ hin'.2.1 h5.2.1,Option.bind_some];cases hp:fF q
  ·simp
  simp only [if_true,Bool.true_eq_false,if_false];rw [e86 hin (by omega),Option.bind_some];cases hw:wD d.report q
  ·simp
  simp only [if_true,Bool.true_eq_false,if_false];rw [e87 _ h3 h4,Option.bind_some];cases ht:In q.minute d.report.out (d.report.out+d.report.within)
  ·simp
  simp only [if_true,Bool.true_eq_false,if_false];rw [e88 (l:=l) (by rw [hd]) hin (by omega) h2 h5.1 h5.2.1,Option.bind_some,hd];cases hk:wE l sw d.report q
  ·simp
  simp only [if_true];rw [e89 (qL hin (by omega)) ha,Option.bind_some];cases d.gH.any (gE q) <;> simp
 rw [if_pos hin];unfold dN at hin;rw [if_neg (by rw [decide_eq_true_iff];exact hin)];simp
def jN (q:List aB) (x:Int):List Int→List Int
 | []=>[x]
 | y::ys=>if eB q x y then x::y::ys else y::jN q x ys
def cL (n:Nat):List Int:=(List.range n).map (fun (k:Nat)=>(k:Int))
def kO (q:List aB):List Int:=(cL q.length).foldl (fun a x=>jN q x a) []
def kP (q:List aB) (i:Int):Prop:=0≤i∧i.toNat < q.length
theorem gX {q:List aB} {i k:Int} (hi:kP q i) (hk:kP q k):eB q i k=mP (q[i.toNat]'hi.2) (q[k.toNat]'hk.2) i k:=by
 unfold eB;rw [List.getElem?_eq_getElem hi.2,List.getElem?_eq_getElem hk.2]
theorem fJ (x y:aB) (i k:Int):mP x y i k=true↔x.minute < y.minute∨(x.minute=y.minute∧(x.by_ < y.by_∨(x.by_=y.by_∧i < k))):=by
 unfold mP;by_cases a:x.minute=y.minute
 ·rw [if_pos a];by_cases b:x.by_=y.by_
  ·rw [if_pos b,decide_eq_true_iff];omega
  rw [if_neg b,decide_eq_true_iff];omega
 rw [if_neg a,decide_eq_true_iff];omega
theorem mU {q:List aB} {i j k:Int} (hi:kP q i) (hj:kP q j) (hk:kP q k) (h1:eB q i j=true) (h2:eB q j k=true):eB q i k=true:=by
 rw [gX hi hj,fJ] at h1;rw [gX hj hk,fJ] at h2;rw [gX hi hk,fJ];omega
theorem uD {q:List aB} {i j:Int} (hi:kP q i) (hj:kP q j) (h:i≠j):eB q i j=true∨eB q j i=true:=by
 rw [gX hi hj,fJ,gX hj hi,fJ];omega
theorem nW (q:List aB) (x:Int):∀ l:List Int,(jN q x l).Perm (x::l)
 | []=>.refl _
 | y::l=>by
  simp only [jN]
  split
  ·exact .refl _
  exact ((nW q x l).cons y).trans (.swap x y l)
theorem oK {q:List aB} {x:Int} (hx:kP q x):∀ {l:List Int},(∀ y∈l,kP q y∧y≠x)→l.Pairwise (fun i k=>eB q i k=true)→(jN q x l).Pairwise (fun i k=>eB q i k=true)
 | [],_,_=>by simp [jN]
 | y::l,h,hp=>by
  rw [List.pairwise_cons] at hp;have hy:=h y List.mem_cons_self;simp only [jN];by_cases hs:eB q x y=true
  ·rw [if_pos hs,List.pairwise_cons];refine ⟨fun z hz=>?_,List.pairwise_cons.2 hp⟩;rcases List.mem_cons.1 hz with rfl | hz
   ·exact hs
   exact mU hx hy.1 (h z (List.mem_cons_of_mem _ hz)).1 hs (hp.1 z hz)
  rw [if_neg hs,List.pairwise_cons];refine ⟨fun z hz=>?_,oK hx (fun z hz=>h z (List.mem_cons_of_mem _ hz)) hp.2⟩;have:=(nW q x l).mem_iff.1 hz;rcases List.mem_cons.1 this with rfl | hz
  ·exact (uD hx hy.1 (Ne.symm hy.2)).resolve_left hs
  exact hp.1 z hz
def oV (q:List aB) (n:Nat):List Int:=(cL n).foldl (fun a x=>jN q x a) []
theorem sT (n:Nat):cL (n+1)=cL n++[(n:Int)]:=by simp [cL,List.range_succ]
theorem qM (q:List aB) (n:Nat):oV q (n+1)=jN q n (oV q n):=by simp [oV,sT]
theorem qN (q:List aB):∀ n,(oV q n).Perm (cL n)
 | 0=>.refl _
 | n+1=>by
  rw [qM,sT];refine (nW q n _).trans (((qN q n).cons _).trans ?_);exact (List.perm_append_comm (l₁:=[(n:Int)]) (l₂:=cL n))
theorem iG {n:Nat} {i:Int}:i∈cL n↔0≤i∧i.toNat < n:=by
 simp only [cL,List.mem_map,List.mem_range];constructor
 ·rintro ⟨k,hk,rfl⟩;omega
 rintro ⟨h0,h1⟩;exact ⟨i.toNat,h1,by omega⟩
theorem jO {q:List aB} {n:Nat} {i:Int}:i∈oV q n↔0≤i∧i.toNat < n:=by rw [(qN q n).mem_iff,iG]
theorem yR (q:List aB) (n:Nat):(oV q n).length=n:=by rw [(qN q n).length_eq];simp [cL]
theorem lU (q:List aB):∀ n,n≤q.length→(oV q n).Pairwise (fun i k=>eB q i k=true)
 | 0,_=>by simp [oV,cL]
 | n+1,h=>by
  rw [qM];refine oK ⟨by omega,by omega⟩ (fun y hy=>?_) (lU q n (by omega));rw [jO] at hy;exact ⟨⟨hy.1,by omega⟩,by omega⟩
theorem eM (q:List aB):kO q=oV q q.length:=rfl
end T4
namespace T4
open Go Go.Proofs Pk
def qY (x y:Int):Int:=if x < y then -1 else if y < x then 1 else 0
theorem e52 (x y:Int):MP x y=some (qY x y):=by
 unfold qY;unfold MP PD;simp only [ne_eq,not_true,decide_false,Option.bind_some,Bool.false_eq_true,if_false];by_cases a:x < y
 ·simp [a]
 by_cases b:y < x <;> simp [a,b]
theorem e56 (a b:Int):PE [a,b]=some (if a≠0 then a else b):=by
 have h1:aO (vL [a,b]) 0=some (yC (ε:=Unit⊕Int) (fun _ x=>if x≠0 then some (.inr x) else none) (.inl ()) [a,b] 0):=by
  refine pW [a,b] _ _ (fun i x hi hx=>?_) ?_
  ·unfold vL;rw [if_pos (by omega),hx,Option.bind_some];by_cases h:x≠0 <;> simp [h]
  unfold vL;simp
 unfold PE;rw [h1];by_cases ha:a=0
 ·by_cases hb:b=0 <;> simp [yC,ha,hb]
 simp [yC,ha]
theorem e51 {q:List aB} {i k:Int} (hi:kP q i) (hk:kP q k):∃ c,IK i k q=some c∧(c < 0↔((q[i.toNat]'hi.2).minute < (q[k.toNat]'hk.2).minute∨((q[i.toNat]'hi.2).minute=(q[k.toNat]'hk.2).minute∧(q[i.toNat]'hi.2).by_ < (q[k.toNat]'hk.2).by_))):=by
 refine ⟨if qY (q[i.toNat]'hi.2).minute (q[k.toNat]'hk.2).minute≠0 then qY (q[i.toNat]'hi.2).minute (q[k.toNat]'hk.2).minute else qY (q[i.toNat]'hi.2).by_ (q[k.toNat]'hk.2).by_,?_,?_⟩
 ·unfold IK MQ;rw [bA hi.1,List.getElem?_eq_getElem hi.2,Option.bind_some,bA hk.1,List.getElem?_eq_getElem hk.2,Option.bind_some,e52,Option.bind_some,e52,Option.bind_some,e56];rfl
 generalize (q[i.toNat]'hi.2)=x;generalize (q[k.toNat]'hk.2)=y;unfold qY;by_cases a:x.minute < y.minute
 ·simp [a]
 by_cases b:y.minute < x.minute
 ·simp [a,b];omega
 have e:x.minute=y.minute:=by omega
 by_cases c:x.by_ < y.by_
 ·simp [e,c]
 by_cases d:y.by_ < x.by_ <;> simp [e,c,d]
theorem SC {q:List aB} {e2:Nat×List Int} (he:e2.1=0) {x:Int} (hx:kP q x):∀ (n:Nat) (A B:List Int),A.length=n→n≤1000000→(∀ y∈A,kP q y∧y < x)→A.Pairwise (fun i k=>eB q i k=true)→aO (lI e2 q) ((n:Int),A++x::B)=some (jN q x A++B):=by
 intro n
 induction n with
 | zero =>
  intro A B hn _ _ _;obtain rfl:=List.length_eq_zero_iff.1 hn;exact bX (by unfold lI;rw [he];simp [jN])
 | succ n ih =>
  intro A B hn hb hA hs;obtain ⟨A',y,rfl⟩:∃ m c,A=m++[c]:=⟨A.dropLast,A.getLast (by intro c;rw [c] at hn;cases hn),(List.dropLast_concat_getLast _).symm⟩;have hn':A'.length=n:=by simpa using hn
  have hy:=hA y (by simp);have hL:(A'++[y])++x::B=A'++y::x::B:=by simp
  rw [hL];have g1:(A'++y::x::B)[(((n+1:Nat):Int)).toNat]?=some x:=by
   rw [show (((n+1:Nat):Int)).toNat=A'.length+1 by omega,List.getElem?_append_right (by omega)];simp
  have g2:(A'++y::x::B)[((((n+1:Nat):Int)) - 1).toNat]?=some y:=by
   rw [show ((((n+1:Nat):Int)) - 1).toNat=A'.length by omega,List.getElem?_append_right (by omega)];simp
  obtain ⟨c,hc,hciff⟩:=e51 hx hy.1;have hsoon:eB q x y=true↔c < 0:=by
   rw [hciff,gX hx hy.1,fJ];have:=hy.2;omega
  by_cases hxy:eB q x y=true
  ·have hset:((A'++y::x::B).set (((n+1:Nat):Int)).toNat y).set ((((n+1:Nat):Int)) - 1).toNat x=A'++x::y::B:=by
    rw [show (((n+1:Nat):Int)).toNat=A'.length+1 by omega,show ((((n+1:Nat):Int)) - 1).toNat=A'.length by omega];rw [List.set_append_right _ _ (by omega),List.set_append_right _ _ (by omega)];simp
   have g3:((A'++y::x::B).set (((n+1:Nat):Int)).toNat y)[((((n+1:Nat):Int)) - 1).toNat]?=some y:=by
    rw [show (((n+1:Nat):Int)).toNat=A'.length+1 by omega,show ((((n+1:Nat):Int)) - 1).toNat=A'.length by omega];rw [List.set_append_right _ _ (by omega),List.getElem?_append_right (by omega)];simp
   have hstep:lI e2 q ((((n+1:Nat):Int)),A'++y::x::B)=some (.inl ((n:Int),A'++x::y::B)):=by
    unfold lI;rw [he];simp only [g1,g2,hc,Option.bind_some];rw [if_pos (by omega),bA (by omega),bA (by omega),bA (by omega)];simp only [Option.bind_some];rw [if_pos (by rw [decide_eq_true_iff];exact hsoon.1 hxy),bA (by omega),bA (by omega),bA (by omega)];simp only [g3,Option.bind_some,hset];congr 4;omega
   rw [cB hstep,ih A' (y::B) hn' (by omega) (fun z hz=>hA z (by simp [hz])) (List.pairwise_append.1 hs).1];have:jN q x (A'++[y])=jN q x A'++[y]:=by
    clear ih hset g3 hstep g1 g2 hL hn hs hA hn'
    induction A' with
    | nil=>simp [jN,hxy]
    | cons z A' ih=>simp only [List.cons_append,jN];split <;> simp [ih]
   rw [this];simp
  have hstop:lI e2 q ((((n+1:Nat):Int)),A'++y::x::B)=some (.inr (A'++y::x::B)):=by
   unfold lI;rw [he];simp only [g1,g2,hc,Option.bind_some];rw [if_pos (by omega),bA (by omega),bA (by omega),bA (by omega)];simp only [Option.bind_some];rw [if_neg (by rw [decide_eq_true_iff];exact fun h=>hxy (hsoon.2 h))]
  rw [bX hstop];have:∀ (C:List Int),(∀ z∈C,kP q z∧eB q z y=true)→jN q x (C++[y])=C++[y,x]:=by
   intro C
   induction C with
   | nil=>intro _;simp [jN,hxy]
   | cons z C ih =>
    intro hC;have hz:=hC z List.mem_cons_self;have:¬eB q x z=true:=fun h=>hxy (mU hx hz.1 hy.1 h hz.2);simp only [List.cons_append,jN,if_neg this];rw [ih (fun w hw=>hC w (List.mem_cons_of_mem _ hw))]
  rw [this A' (fun z hz=>⟨(hA z (by simp [hz])).1,(List.pairwise_append.1 hs).2.2 z hz y (by simp)⟩)];simp
theorem EG {q:List aB} {n:Nat} (hn:n=q.length) (hb:n≤1000000) (e2:Nat×List Int) (he:e2.1=0) (i:Nat) (hi:i < n):aO (lI e2 q) ((i:Int),oV q i++(cL n).drop i)=some (oV q (i+1)++(cL n).drop (i+1)):=by
 have hd:(cL n).drop i=(i:Int)::(cL n).drop (i+1):=by
  rw [List.drop_eq_getElem_cons (by simp [cL];omega)];simp [cL]
 rw [hd,qM];refine SC he ⟨by omega,by omega⟩ i (oV q i) _ (yR q i) (by omega) (fun y hy=>?_) (lU q i (by omega));rw [jO] at hy;exact ⟨⟨hy.1,by omega⟩,by omega⟩
theorem SD {q:List aB} {n:Nat} (hn:n=q.length) (hb:n≤1000000) (e1:List Int) (h1:e1.length=n) (e2:Nat×List Int) (he:e2.1=0):∀ (k i:Nat),n - i=k→i≤n→aO (kI e1 e2 q) (i,oV q i++(cL n).drop i)=some (oV q n):=by
 intro k
 induction k with
 | zero =>
  intro i hk hi;obtain rfl:i=n:=by omega
  have:(cL i).drop i=[]:=List.drop_eq_nil_of_le (by simp [cL]);rw [this,List.append_nil];exact bX (by unfold kI;simp [h1])
 | succ k ih =>
  intro i hk hi;rw [cB (s':=(i+1,oV q (i+1)++(cL n).drop (i+1)))]
  ·exact ih (i+1) (by omega) (by omega)
  unfold kI;rw [if_pos (by simp;omega)];simp only [EG hn hb e2 he i (by omega),Option.bind_some]
theorem SE (s:Nat×Nat×List Int) (q:List aB):DB s q=lI (s.1,s.2.2) q:=rfl
theorem SF {q:List aB} {n:Nat} (hn:n=q.length) (hb:n≤1000000) (s:Nat×Nat×List Int) (hs1:s.1=0) (hs2:s.2.1=n):∀ (k i:Nat),n - i=k→i≤n→aO (vN s q) (i,oV q i++(cL n).drop i)=some (oV q n):=by
 intro k
 induction k with
 | zero =>
  intro i hk hi;obtain rfl:i=n:=by omega
  have:(cL i).drop i=[]:=List.drop_eq_nil_of_le (by simp [cL]);rw [this,List.append_nil];exact bX (by unfold vN;simp [hs2])
 | succ k ih =>
  intro i hk hi;rw [cB (s':=(i+1,oV q (i+1)++(cL n).drop (i+1)))]
  ·exact ih (i+1) (by omega) (by omega)
  unfold vN;rw [if_pos (by simp;omega),SE];simp only [EG hn hb (s.1,s.2.2) hs1 i (by omega),Option.bind_some];rw [bA (by omega)]
theorem yS (q:List aB) {n:Nat} (h:1≤n):oV q 1++(cL n).drop 1=cL n:=by
 obtain ⟨m,rfl⟩:∃ m,n=m+1:=⟨n - 1,by omega⟩;simp [oV,cL,jN,List.range_succ_eq_map]
theorem wF {q:List aB} (h:q.length≤20):(((aO (mL (cL q.length) q) (0, 20, cL q.length)).bind fun eV =>
        ((cE (-9223372036854775808≤((eV.1:Int)+1)∧((eV.1:Int)+1)≤9223372036854775807) <|
          (aO (kI (cL q.length) eV q) ((eV.1+1),eV.2)).bind fun eA1=>some eA1):Option (List Int)).bind fun t1 =>
        (aO (sB (cL q.length)) 20).bind fun _=>some t1):Option (List Int))=some (kO q):=by
  have hlen:(cL q.length).length=q.length:=by simp [cL]
  have h7:aO (sB (cL q.length)) 20=some ():=bX (by unfold sB;rw [if_neg (by omega)]);rcases Nat.lt_or_ge q.length 20 with h1 | h1
  · have h2:aO (mL (cL q.length) q) (0,20,cL q.length)=some (0,cL q.length):=bX (by unfold mL;rw [if_neg (by simp;omega)]);rw [h2,Option.bind_some];simp only;rw [bA (by omega)];rcases Nat.eq_zero_or_pos q.length with h0 | h0
    · have hi0:cL q.length=[]:=by rw [h0];rfl
      have h5:aO (kI (cL q.length) (0,cL q.length) q) (0+1,cL q.length)=some (cL q.length):=bX (by unfold kI;rw [if_neg (by simp;omega)]);rw [h5,Option.bind_some,Option.bind_some,h7,Option.bind_some];rw [eM,h0];rfl
    have h5:=SD (q:=q) rfl (by omega) (cL q.length) hlen (0,cL q.length) rfl (q.length - 1) 1 rfl (by omega);rw [yS q h0] at h5;rw [h5,Option.bind_some,Option.bind_some,h7,Option.bind_some];rfl
  have e21:q.length=20:=by omega
  have h3:=SF (q:=q) (n:=20) e21.symm (by omega) (0,20,cL 20) rfl rfl 19 1 rfl (by omega);rw [yS q (by omega)] at h3;have h2:aO (mL (cL q.length) q) (0,20,cL q.length)=some (20,oV q 20):=by
    rw [e21];rw [cB (s':=(20,40,oV q 20)) (by unfold mL;rw [if_pos (by simp [cL]),bA (by omega),h3,Option.bind_some,Option.bind_some,bA (by dsimp only;omega)])];exact bX (by unfold mL;rw [if_neg (by simp [cL])])
  rw [h2,Option.bind_some];simp only;rw [bA (by omega)];have h5:aO (kI (cL q.length) (20,oV q 20) q) (20+1,oV q 20)=some (oV q 20):=bX (by unfold kI;rw [if_neg (by simp;omega)]);rw [h5,Option.bind_some,Option.bind_some,h7,Option.bind_some,eM,e21]
end T4
namespace T4
open Go Go.Proofs Pk
abbrev DS:=List Int×List aB×List Int
def dO (l:aP) (sw:List bH) (r:aR) (q:List aB) (s:DS) (i:Int):DS :=
 match q[i.toNat]? with
 | none=>s
 | some x=>if lD l sw r s.2.1 x=0 then (s.1++[i],s.2.1++[x],s.2.2.set i.toNat 0) else (s.1,s.2.1,s.2.2.set i.toNat (lD l sw r s.2.1 x))
def qO (l:aP) (sw:List bH) (r:aR) (q:List aB):DS:=(kO q).foldl (dO l sw r q) ([],[],List.replicate q.length 0)
def cI (l:aP) (sw:List bH) (r:aR) (q:List aB):List Int:=(qO l sw r q).2.2
theorem yT {l:aP} {sw:List bH} {r:aR} {q:List aB} (h:RQ r q) (hr:dA r=true) (hq:∀ x∈q,x.cut≤9223372036854775807):SB r q:=by
 unfold dA at hr;simp only [Bool.and_eq_true,In,decide_eq_true_eq] at hr;exact ⟨h.words1,LZ h.words2,hr.1.2,hr.2,h.req1,fun x hx=>⟨Nat.le_trans (h.req2 x hx).1 (by decide),fun s hs=>Nat.le_trans ((h.req2 x hx).2 s hs) (by decide),hq x hx⟩⟩
structure TF (r:aR) (n i:Nat) (s:DS):Prop where
 a:s.1.length≤i
 b:s.2.1.length≤i
 c:s.2.2.length=n
 d:∀ x∈s.2.1,dN r x
theorem TF.step {l:aP} {sw:List bH} {r:aR} {q:List aB} {n i:Nat} {s:DS} {x:Int} (h:TF r n i s):TF r n (i+1) (dO l sw r q s x):=by
 obtain ⟨a,b,c,d⟩:=h;unfold dO
 cases hx:q[x.toNat]? with
 | none=>exact ⟨by dsimp only;omega,by dsimp only;omega,c,d⟩
 | some y =>
  dsimp only;by_cases e:lD l sw r s.2.1 y=0
  ·rw [if_pos e];refine ⟨by simp;omega,by simp;omega,by simp [c],fun z hz=>?_⟩;simp only [List.mem_append,List.mem_singleton] at hz;rcases hz with hz | rfl
   ·exact d z hz
   unfold lD at e;by_cases k:kL l sw r z≠0
   ·rw [if_pos k] at e;exact absurd e k
   exact mT (Decidable.not_not.1 k)
  rw [if_neg e];exact ⟨by dsimp only;omega,by dsimp only;omega,by simp [c],d⟩
theorem JG {l:aP} {sw:List bH} {r:aR} {q:List aB} (hf:SB r q) (e1:List Int) (he:e1.length=q.length) (rr:rules×Int) (hrr:rr.1=⟨gD l,sw⟩) :
  aO (sC e1 (kO q) q r rr) (0,([]:List Int),([]:List aB),(List.replicate q.length (0:Int)))=some (qO l sw r q):=by
 have hol:(kO q).length=q.length:=by rw [eM,yR]
 refine jD (σ:=DS) (kO q) (dO l sw r q) (fun s=>(s.1,s.2.1,s.2.2)) (fun i s=>TF r q.length i s) (fun i x s hi hx hI=>?_) (fun i x s hi hx hI=>hI.step) (fun s hI=>?_) ⟨by simp,by simp,by simp,by simp⟩
 ·have hm:=List.mem_of_getElem? hx;rw [eM,jO] at hm;have hq:q[x.toNat]?=some (q[x.toNat]'hm.2):=List.getElem?_eq_getElem hm.2;have hql:=hf.q1;have h9:=e53 (l:=l) (sw:=sw) (d:=(⟨r,rr.1,s.2.1,s.1,s.2.2⟩:cK)) (q:=q[x.toNat]'hm.2) hf.w1 hf.w2 hf.out hf.within (hf.q2 _ (List.mem_of_getElem? hq)) hrr (fun y hy=>qL (hI.d y hy) (by have:=hf.w1;omega));unfold sC dO;rw [if_pos (by simp;omega)];simp only [hx,Option.bind_some];rw [bA hm.1];simp only [hq,Option.bind_some,h9];have hlt:x.toNat < s.2.2.length:=by rw [hI.c];exact hm.2
  rw [List.getElem?_eq_getElem hlt,Option.bind_some,List.getElem?_set_self hlt,Option.bind_some];have ha:=hI.a;have hb:=hI.b;by_cases e:lD l sw r s.2.1 (q[x.toNat]'hm.2)=0
  ·simp only [e,if_true];rw [bA (by simp;omega),bA (by simp;omega)];rfl
  simp only [e,if_false];rfl
 rw [hol];unfold sC;rw [if_neg (by simp [he])]
def uE (l:aP) (sw:List bH) (r:aR) (q:List aB):List Int×Int:=if eO l sw r q=0 then (cI l sw r q,0) else ([],eO l sw r q)
theorem e45 {l:aP} (h:qI l) (sw:List bH) {r:aR} {q:List aB} (hRQ:RQ r q) (hq:∀ x∈q,x.cut≤9223372036854775807):PL l sw r q=some (uE l sw r q):=by
 have hsh:=LZ hRQ.words2;have hql:=hRQ.req1;have h1:aO (kH q) (0,([]:List Int))=some (cL q.length):=by
  have:=fA (List.range q.length) (fun (k:Nat)=>(k:Int)) (fun a=>a) (step:=kH q) (fun i x a hi hx ha=>?_) (fun a=>?_)
  ·exact this
  ·simp only [List.length_range] at hi;have hxi:x=i:=by rw [List.getElem?_range hi] at hx;simpa using hx.symm
   subst hxi;unfold kH;rw [if_pos (by simp;omega),bA (by simp;omega)]
  simp only [List.length_range];unfold kH;simp
 unfold PL uE eO;rw [e48 h,Option.bind_some,e49 hsh];by_cases a:jS l sw=0
 ·simp only [a,if_true];rw [if_neg (by simp),Option.bind_some];by_cases b:dA r=true
  ·simp only [b,if_true];rw [if_neg (by simp)];by_cases c:20 < q.length
   ·rw [if_pos (by omega)];simp [c]
   rw [if_neg (by omega),bA (by omega),h1,Option.bind_some];have hs:=wF (q:=q) (by omega);simp only [c,if_false];have hf:=yT (l:=l) (sw:=sw) hRQ b hq;have h9:=JG (l:=l) (sw:=sw) hf (cL q.length) (by simp [cL]) (⟨gD l,sw⟩,0) rfl;rw [hs];simp only [Option.bind_some];rw [h9];rfl
  simp [b]
 simp [a]
end T4
namespace T4
open Go Go.Proofs Pk
end T4
namespace T4
open Go Go.Proofs Pk
end T4
namespace T4
open Go Go.Proofs Pk
theorem rL (q:List aB) (i:Int):¬eB q i i=true:=by
 unfold eB
 cases q[i.toNat]? with
 | none=>simp
 | some x=>simp [mP]
theorem oL (q:List aB):(kO q).Nodup:=by
 have h:=lU q q.length (Nat.le_refl _);rw [← eM] at h;exact h.imp fun {a b} hs e=>by subst e;exact rL q a hs
end T4
namespace T4
open Go Go.Proofs Pk
end T4
namespace T4
open Go Go.Proofs Pk
structure Dn (l:aP) (sw:List bH) (r:aR) (q:List aB) (s:DS) (done:List Int):Prop where
 a:∀ i∈done,kP q i
 b:s.2.2.length=q.length
 c:∀ y∈s.2.1,∃ j∈done,q[j.toNat]?=some y∧s.2.2[j.toNat]?=some 0
 d:∀ i∈done,∃ acc x,q[i.toNat]?=some x∧s.2.2[i.toNat]?=some (lD l sw r acc x)∧∀ y∈acc,∃ j∈done,j≠i∧q[j.toNat]?=some y∧s.2.2[j.toNat]?=some 0
theorem Dn.step {l:aP} {sw:List bH} {r:aR} {q:List aB} {s:DS} {done:List Int} {m:Int} (h:Dn l sw r q s done) (hm:kP q m) (hn:m∉done):Dn l sw r q (dO l sw r q s m) (done++[m]):=by
 obtain ⟨a,b,c,d⟩:=h;have hx:q[m.toNat]?=some (q[m.toNat]'hm.2):=List.getElem?_eq_getElem hm.2;generalize q[m.toNat]'hm.2=x at hx;have hset:∀ j∈done,∀ v:Int,(s.2.2.set m.toNat v)[j.toNat]?=s.2.2[j.toNat]?:=by
  intro j hj v;rw [List.getElem?_set_ne];intro e;apply hn;have:=(a j hj).1;have:=hm.1;rw [show m=j by omega];exact hj
 have hself:∀ v:Int,(s.2.2.set m.toNat v)[m.toNat]?=some v:=fun v=>List.getElem?_set_self (by rw [b];exact hm.2);have hst:∃ acc',(acc'=s.2.1∨(acc'=s.2.1++[x]∧lD l sw r s.2.1 x=0))∧(dO l sw r q s m).2=(acc',s.2.2.set m.toNat (lD l sw r s.2.1 x)):=by
  unfold dO;rw [hx];dsimp only;by_cases e:lD l sw r s.2.1 x=0
  ·rw [if_pos e];exact ⟨_,.inr ⟨rfl,e⟩,by rw [e]⟩
  rw [if_neg e];exact ⟨_,.inl rfl,rfl⟩
 obtain ⟨acc',hacc,hst⟩:=hst;refine ⟨fun i hi=>?_,by rw [hst];simp [b],fun y hy=>?_,fun i hi=>?_⟩
 ·rcases List.mem_append.1 hi with h | h
  ·exact a i h
  rw [List.mem_singleton.1 h];exact hm
 ·rw [hst] at hy ⊢;have old:y∈s.2.1→∃ j∈done++[m],q[j.toNat]?=some y∧(s.2.2.set m.toNat (lD l sw r s.2.1 x))[j.toNat]?=some 0:=by
   intro hy;obtain ⟨j,h1,h2,h3⟩:=c y hy;exact ⟨j,List.mem_append_left _ h1,h2,by rw [hset j h1];exact h3⟩
  rcases hacc with e | ⟨e,e0⟩
  ·rw [e] at hy;exact old hy
  rw [e] at hy;rcases List.mem_append.1 hy with h | h
  ·exact old h
  rw [List.mem_singleton.1 h];refine ⟨m,by simp,hx,?_⟩;rw [e0];exact hself 0
 rw [hst];rcases List.mem_append.1 hi with h | h
 ·obtain ⟨ac,z,h1,h2,h3⟩:=d i h;refine ⟨ac,z,h1,by rw [hset i h];exact h2,fun y hy=>?_⟩;obtain ⟨j,g1,g2,g3,g4⟩:=h3 y hy;exact ⟨j,List.mem_append_left _ g1,g2,g3,by rw [hset j g1];exact g4⟩
 rw [List.mem_singleton.1 h];refine ⟨s.2.1,x,hx,hself _,fun y hy=>?_⟩;obtain ⟨j,h1,h2,h3⟩:=c y hy;exact ⟨j,List.mem_append_left _ h1,fun e=>hn (by rw [← e];exact h1),h2,by rw [hset j h1];exact h3⟩
theorem Dn.all {l:aP} {sw:List bH} {r:aR} {q:List aB}:∀ (o done:List Int) (s:DS),(done++o).Nodup→(∀ m∈o,kP q m)→Dn l sw r q s done→Dn l sw r q (o.foldl (dO l sw r q) s) (done++o)
 | [],done,s,_,_,h=>by simpa using h
 | m::o,done,s,hn,ho,h=>by
  rw [List.foldl_cons];have h1:m∉done:=by
   intro hm;rw [List.nodup_append] at hn;exact hn.2.2 m hm m List.mem_cons_self rfl
  have:=Dn.all o (done++[m]) (dO l sw r q s m) (by simpa using hn) (fun k hk=>ho k (List.mem_cons_of_mem _ hk)) (h.step (ho m List.mem_cons_self) h1);simpa using this
theorem MD {l:aP} {sw:List bH} {r:aR} {q:List aB} {i:Nat} {x:aB} (hx:q[i]?=some x):∃ acc,(cI l sw r q)[i]?=some (lD l sw r acc x)∧∀ y∈acc,∃ j:Nat,j≠i∧q[j]?=some y∧(cI l sw r q)[j]?=some 0:=by
 have h:=Dn.all (l:=l) (sw:=sw) (r:=r) (q:=q) (kO q) [] ([],[],List.replicate q.length 0) (by simpa using oL q) (fun m hm=>by rw [eM,jO] at hm;exact hm) ⟨by simp,by simp,by simp,by simp⟩;rw [List.nil_append] at h;have hi:(i:Int)∈kO q:=by
  rw [eM,jO];have:=(List.getElem?_eq_some_iff.1 hx).1;omega
 obtain ⟨acc,z,h1,h2,h3⟩:=h.d i hi;rw [Int.toNat_natCast] at h1 h2;obtain rfl:z=x:=Option.some.inj (h1.symm.trans hx);refine ⟨acc,h2,fun y hy=>?_⟩;obtain ⟨j,g1,g2,g3,g4⟩:=h3 y hy;exact ⟨j.toNat,fun e=>g2 (by have:=(h.a j g1).1;omega),g3,g4⟩
theorem EH {l:aP} {sw:List bH} {r:aR} {q:List aB} {i:Nat} {x:aB} (hx:q[i]?=some x) (h:(cI l sw r q)[i]?=some 0):kL l sw r x=0:=by
 obtain ⟨acc,h1,_⟩:=MD (l:=l) (sw:=sw) (r:=r) hx;have:=Option.some.inj (h1.symm.trans h);unfold lD at this;by_cases a:kL l sw r x=0
 ·exact a
 rw [if_pos a] at this;exact absurd this a
end T4
namespace T4
open Go Go.Proofs Pk
theorem sU (x y:aB):gE x y=gE y x:=by
 unfold gE;by_cases a:x.cut=0 <;> by_cases b:y.cut=0
 ·simp only [a,b,and_self,if_true];exact decide_eq_decide.2 ⟨Eq.symm,Eq.symm⟩
 ·simp [a,b]
 ·simp [a,b]
 simp only [a,b,and_self,if_false];exact decide_eq_decide.2 ⟨And.symm,And.symm⟩
end T4
namespace T4
open Go Go.Proofs Pk
structure Wn (q:List aB) (s:DS) (done:List Int):Prop where
 a:s.1.Nodup
 b:∀ i∈s.1,i∈done
 d:∀ i∈s.1,∀ j∈s.1,i≠j→∀ x y,q[i.toNat]?=some x→q[j.toNat]?=some y→gE x y=false
 e:∀ i∈done,(i∈s.1↔s.2.2[i.toNat]?=some 0)
 f:∀ i∈s.1,∀ x,q[i.toNat]?=some x→x∈s.2.1
 g:s.2.2.length=q.length
 h:∀ i∈done,kP q i
theorem Wn.step {l:aP} {sw:List bH} {r:aR} {q:List aB} {s:DS} {done:List Int} {m:Int} (H:Wn q s done) (hm:kP q m) (hn:m∉done):Wn q (dO l sw r q s m) (done++[m]):=by
 obtain ⟨a,b,d,e,f,g,h⟩:=H;have hx:q[m.toNat]?=some (q[m.toNat]'hm.2):=List.getElem?_eq_getElem hm.2;generalize q[m.toNat]'hm.2=x at hx;have hset:∀ j∈done,∀ v:Int,(s.2.2.set m.toNat v)[j.toNat]?=s.2.2[j.toNat]?:=by
  intro j hj v;rw [List.getElem?_set_ne];intro e;apply hn;have:=(h j hj).1;have:=hm.1;rw [show m=j by omega];exact hj
 have hself:∀ v:Int,(s.2.2.set m.toNat v)[m.toNat]?=some v:=fun v=>List.getElem?_set_self (by rw [g];exact hm.2);have hms:m∉s.1:=fun hh=>hn (b m hh);have hok:∀ i∈done++[m],kP q i:=fun i hi=>by
  rcases List.mem_append.1 hi with h1 | h1
  ·exact h i h1
  rw [List.mem_singleton.1 h1];exact hm
 unfold dO;rw [hx];dsimp only;by_cases e0:lD l sw r s.2.1 x=0
 ·rw [if_pos e0];have hfree:∀ y∈s.2.1,gE x y=false:=by
   unfold lD at e0;by_cases a0:kL l sw r x=0
   ·rw [if_neg (by simp [a0])] at e0;intro y hy;cases hM:gE x y
    ·rfl
    rw [if_pos (List.any_eq_true.2 ⟨y,hy,hM⟩)] at e0;cases e0
   rw [if_pos a0] at e0;exact absurd e0 a0
  refine ⟨?_,?_,?_,?_,?_,by simp [g],hok⟩
  ·dsimp only;rw [List.nodup_append];exact ⟨a,by simp,fun i hi j hj e=>by rw [List.mem_singleton.1 hj] at e;exact hms (e▸hi)⟩
  ·intro i hi;rcases List.mem_append.1 hi with h1 | h1
   ·exact List.mem_append_left _ (b i h1)
   exact List.mem_append_right _ h1
  ·intro i hi j hj hij y z hy hz;rcases List.mem_append.1 hi with h1 | h1 <;> rcases List.mem_append.1 hj with h2 | h2
   ·exact d i h1 j h2 hij y z hy hz
   ·rw [List.mem_singleton.1 h2,hx] at hz;rw [← Option.some.inj hz,sU];exact hfree y (f i h1 y hy)
   ·rw [List.mem_singleton.1 h1,hx] at hy;rw [← Option.some.inj hy];exact hfree z (f j h2 z hz)
   exact absurd ((List.mem_singleton.1 h1).trans (List.mem_singleton.1 h2).symm) hij
  ·intro i hi;rcases List.mem_append.1 hi with h1 | h1
   ·dsimp only;rw [hset i h1,← e i h1,List.mem_append,List.mem_singleton];constructor
    ·rintro (h2 | h2)
     ·exact h2
     exact absurd (h2▸h1) hn
    exact .inl
   rw [List.mem_singleton.1 h1];dsimp only;rw [hself 0];simp
  intro i hi y hy;rcases List.mem_append.1 hi with h1 | h1
  ·exact List.mem_append_left _ (f i h1 y hy)
  rw [List.mem_singleton.1 h1,hx] at hy;exact List.mem_append_right _ (by simp [Option.some.inj hy])
 rw [if_neg e0];refine ⟨a,fun i hi=>List.mem_append_left _ (b i hi),d,?_,f,by simp [g],hok⟩;intro i hi;rcases List.mem_append.1 hi with h1 | h1
 ·dsimp only;rw [hset i h1];exact e i h1
 rw [List.mem_singleton.1 h1];dsimp only;rw [hself _];exact ⟨fun hh=>absurd hh hms,fun hh=>absurd (Option.some.inj hh) e0⟩
theorem Wn.all {l:aP} {sw:List bH} {r:aR} {q:List aB}:∀ (o done:List Int) (s:DS),(done++o).Nodup→(∀ m∈o,kP q m)→Wn q s done→Wn q (o.foldl (dO l sw r q) s) (done++o)
 | [],done,s,_,_,h=>by simpa using h
 | m::o,done,s,hn,ho,h=>by
  rw [List.foldl_cons];have h1:m∉done:=by
   intro hm;rw [List.nodup_append] at hn;exact hn.2.2 m hm m List.mem_cons_self rfl
  have:=Wn.all (l:=l) (sw:=sw) (r:=r) o (done++[m]) (dO l sw r q s m) (by simpa using hn) (fun k hk=>ho k (List.mem_cons_of_mem _ hk)) (h.step (ho m List.mem_cons_self) h1);simpa using this
def eJ (l:aP) (sw:List bH) (r:aR) (q:List aB):List Int:=(qO l sw r q).1
theorem kQ (l:aP) (sw:List bH) (r:aR) (q:List aB):Wn q (qO l sw r q) (kO q):=by
 have h:=Wn.all (l:=l) (sw:=sw) (r:=r) (q:=q) (kO q) [] ([],[],List.replicate q.length 0) (by simpa using oL q) (fun m hm=>by rw [eM,jO] at hm;exact hm) ⟨by simp,by simp,by simp,by simp,by simp,by simp,by simp⟩;rw [List.nil_append] at h;exact h
theorem oM (l:aP) (sw:List bH) (r:aR) (q:List aB):(eJ l sw r q).Nodup:=(kQ l sw r q).a
theorem iH {l:aP} {sw:List bH} {r:aR} {q:List aB} {i:Int} (h:i∈eJ l sw r q):kP q i:=(kQ l sw r q).h i ((kQ l sw r q).b i h)
theorem jE {l:aP} {sw:List bH} {r:aR} {q:List aB} {i:Int}:i∈eJ l sw r q↔kP q i∧(cI l sw r q)[i.toNat]?=some 0:=by
 have h:=kQ l sw r q;constructor
 ·intro hi;exact ⟨iH hi,(h.e i (h.b i hi)).1 hi⟩
 rintro ⟨h1,h2⟩;exact (h.e i (by rw [eM,jO];exact h1)).2 h2
theorem lV {l:aP} {sw:List bH} {r:aR} {q:List aB} {i j:Int} (hi:i∈eJ l sw r q) (hj:j∈eJ l sw r q) (hij:i≠j) {x y:aB} (hx:q[i.toNat]?=some x) (hy:q[j.toNat]?=some y):gE x y=false:=(kQ l sw r q).d i hi j hj hij x y hx hy
theorem iV {l:aP} {sw:List bH} {r:aR} {q:List aB} {i:Int} (hi:i∈eJ l sw r q) {x:aB} (hx:q[i.toNat]?=some x):kL l sw r x=0:=EH hx (jE.1 hi).2
def wP (x y:aB):Bool:=decide (x.aH < y.aH)||(decide (x.aH=y.aH)&&decide (x.cut < y.cut))
def EI (q:List aB) (i j:Int):Bool:=match q[i.toNat]?,q[j.toNat]? with
 | some x,some y=>wP x y
 | _,_=>false
theorem nX {x y:aB} (hx:0≤x.cut) (hy:0≤y.cut) (hm:gE x y=false) (h:wP x y=true):x.aH+x.cut≤y.aH:=by
 unfold wP at h;simp only [Bool.or_eq_true,Bool.and_eq_true,decide_eq_true_eq] at h;unfold gE at hm;by_cases a:x.cut=0
 ·rcases h with h | h <;> omega
 by_cases b:y.cut=0
 ·simp only [a,b,false_and,if_false,if_true,decide_eq_false_iff_not] at hm;rcases h with h | h <;> omega
 simp only [a,b,false_and,if_false,decide_eq_false_iff_not] at hm;rcases h with h | h <;> omega
theorem wG {x y:aB} (hx:0≤x.cut) (hy:0≤y.cut) (hm:gE x y=false):wP x y=true∨wP y x=true:=by
 unfold wP;simp only [Bool.or_eq_true,Bool.and_eq_true,decide_eq_true_eq];unfold gE at hm;by_cases a:x.cut=0
 ·by_cases b:y.cut=0
  ·simp only [a,b,and_self,if_true,decide_eq_false_iff_not] at hm;omega
  omega
 by_cases b:y.cut=0
 ·omega
 simp only [a,b,false_and,if_false,decide_eq_false_iff_not] at hm;omega
end T4
namespace T4
open Go Go.Proofs Pk
def dV (r:aR) (q:List aB) (s:Int×List aN) (i:Int):Int×List aN:=match q[i.toNat]? with
 | none=>s
 | some x=>(x.aH+x.cut,(if s.1 < x.aH then s.2++[⟨eW r s.1 x.aH,eW r s.1 x.aH,-1⟩] else s.2)++[⟨eW r x.aH (x.aH+x.cut),x.bK,i⟩])
def uF (r:aR) (s:Int×List aN):List aN:=if s.1 < (r.words.length:Int) then s.2++[⟨eW r s.1 r.words.length,eW r s.1 r.words.length,-1⟩] else s.2
def HV (r:aR) (q:List aB) (is:List Int):List aN:=uF r (is.foldl (dV r q) (0,[]))
def wH (q:List aB) (err:List Int) (p c:Int) (i:Int):Bool:=decide (err[i.toNat]?=some 0)&&(match q[i.toNat]? with
 | some x=>decide (x.aH=p)&&decide (min x.cut 1=c)
 | none=>false)
def cZ (n:Nat) (q:List aB) (err:List Int):List Int:=(List.range (n+1)).flatMap fun (p:Nat)=>(cL q.length).filter (wH q err (p:Int) 0)++(cL q.length).filter (wH q err (p:Int) 1)
theorem fS {q:List aB} {err:List Int} {p c i:Int}:wH q err p c i=true↔err[i.toNat]?=some 0∧∃ x,q[i.toNat]?=some x∧x.aH=p∧min x.cut 1=c:=by
 unfold wH
 cases h:q[i.toNat]? with
 | none=>simp
 | some x=>simp [and_assoc]
theorem e36 {l:List aD} (h:l.length≤1073741824):PQ l=some l:=by
 unfold PQ;rw [bA (by simpa using h)];simp
section
variable {l:aP} {sw:List bH} {r:aR} {q:List aB}
theorem qP {n:Nat} {i:Int}:i∈cZ n q (cI l sw r q)↔(i∈eJ l sw r q∧∃ x,q[i.toNat]?=some x∧0≤x.aH∧x.aH≤n∧0≤x.cut)∨(i∈cZ n q (cI l sw r q)∧∃ x,q[i.toNat]?=some x∧x.cut < 0):=by
 constructor
 ·intro h;unfold cZ at h;rw [List.mem_flatMap] at h;obtain ⟨p,hp,h⟩:=h;rw [List.mem_append,List.mem_filter,List.mem_filter,fS,fS] at h;rw [List.mem_range] at hp;left;have key:∀ c:Int,(0≤c)→i∈cL q.length→((cI l sw r q)[i.toNat]?=some 0∧∃ x,q[i.toNat]?=some x∧x.aH=p∧min x.cut 1=c)→(i∈eJ l sw r q∧∃ x,q[i.toNat]?=some x∧0≤x.aH∧x.aH≤n∧0≤x.cut):=by
   rintro c hc hi ⟨h1,x,h2,h3,h4⟩;exact ⟨jE.2 ⟨iG.1 hi,h1⟩,x,h2,by omega,by omega,by omega⟩
  rcases h with ⟨h1,h2⟩ | ⟨h1,h2⟩
  ·exact key 0 (by omega) h1 h2
  exact key 1 (by omega) h1 h2
 rintro (⟨h,x,hx,h1,h2,h3⟩ | ⟨h,_⟩)
 ·unfold cZ;rw [List.mem_flatMap];refine ⟨x.aH.toNat,by rw [List.mem_range];omega,?_⟩;obtain ⟨h4,h5⟩:=jE.1 h;rw [List.mem_append,List.mem_filter,List.mem_filter,fS,fS];by_cases hc:x.cut=0
  ·exact .inl ⟨iG.2 h4,h5,x,hx,by omega,by omega⟩
  exact .inr ⟨iG.2 h4,h5,x,hx,by omega,by omega⟩
 exact h
theorem fC {i:Int} (h:i∈eJ l sw r q):∃ x,q[i.toNat]?=some x∧dN r x:=by
 have ho:=iH h;have hx:q[i.toNat]?=some (q[i.toNat]'ho.2):=List.getElem?_eq_getElem ho.2;exact ⟨_,hx,mT (iV h hx)⟩
theorem eK {i:Int}:i∈cZ r.words.length q (cI l sw r q)↔i∈eJ l sw r q:=by
 rw [qP];constructor
 ·rintro (⟨h,_⟩ | ⟨h,x,hx,hc⟩)
  ·exact h
  rw [qP] at h;rcases h with ⟨h,_⟩ | ⟨h,x',hx',hc'⟩
  ·exact h
  exfalso;unfold cZ at h;rw [List.mem_flatMap] at h;obtain ⟨p,hp,h⟩:=h;rw [List.mem_append,List.mem_filter,List.mem_filter,fS,fS] at h;rcases h with ⟨_,_,y,hy,_,h4⟩ | ⟨_,_,y,hy,_,h4⟩
  all_goals
   rw [hx] at hy;have:=Option.some.inj hy;subst this;omega
 intro h;obtain ⟨x,hx,ha,hb,hc⟩:=fC h;exact .inl ⟨h,x,hx,ha,by omega,hb⟩
theorem EJ {p c:Int} {i j:Int} (hi:i∈cL q.length) (hj:j∈cL q.length) (h1:wH q (cI l sw r q) p c i=true) (h2:wH q (cI l sw r q) p c j=true):i=j:=by
 rw [fS] at h1 h2;obtain ⟨a1,x,hx,b1,c1⟩:=h1;obtain ⟨a2,y,hy,b2,c2⟩:=h2;have w1:i∈eJ l sw r q:=jE.2 ⟨iG.1 hi,a1⟩;have w2:j∈eJ l sw r q:=jE.2 ⟨iG.1 hj,a2⟩;by_cases e:i=j
 ·exact e
 exfalso;have hm:=lV w1 w2 e hx hy;obtain ⟨x',hx',i1⟩:=fC w1;obtain ⟨y',hy',i2⟩:=fC w2;rw [hx] at hx';rw [hy] at hy';have:=Option.some.inj hx';subst this;have:=Option.some.inj hy';subst this;obtain ⟨_,hxc,_⟩:=i1;obtain ⟨_,hyc,_⟩:=i2;rcases wG hxc hyc hm with h | h <;> unfold wP at h <;> simp only [Bool.or_eq_true,Bool.and_eq_true,decide_eq_true_eq] at h
 ·have:=nX hxc hyc hm (by unfold wP;simp only [Bool.or_eq_true,Bool.and_eq_true,decide_eq_true_eq];exact h);omega
 have:=nX hyc hxc (by rw [sU];exact hm) (by unfold wP;simp only [Bool.or_eq_true,Bool.and_eq_true,decide_eq_true_eq];exact h);omega
theorem qQ (n:Nat):(cL n).Nodup:=by
 unfold cL;exact List.Pairwise.map _ (fun a b h=>by omega) List.nodup_range
theorem yU (p c:Int) (R:Int→Int→Prop):((cL q.length).filter (wH q (cI l sw r q) p c)).Pairwise R:=by
 have h:=(qQ q.length).filter (wH q (cI l sw r q) p c);refine h.imp_of_mem fun {a b} ha hb hab=>?_;rw [List.mem_filter] at ha hb;exact absurd (EJ ha.1 hb.1 ha.2 hb.2) hab
theorem fY {i j:Int} {x y:aB} (hx:q[i.toNat]?=some x) (hy:q[j.toNat]?=some y):EI q i j=wP x y:=by unfold EI;rw [hx,hy]
theorem jA (n:Nat):(cZ n q (cI l sw r q)).Pairwise (fun i j=>EI q i j=true):=by
 unfold cZ;rw [List.pairwise_flatMap];refine ⟨fun p hp=>?_,?_⟩
 ·rw [List.pairwise_append];refine ⟨yU _ _ _,yU _ _ _,fun i hi j hj=>?_⟩;rw [List.mem_filter,fS] at hi hj;obtain ⟨_,_,x,hx,h1,h2⟩:=hi;obtain ⟨_,_,y,hy,h3,h4⟩:=hj;rw [fY hx hy];unfold wP;simp only [Bool.or_eq_true,Bool.and_eq_true,decide_eq_true_eq];omega
 refine List.pairwise_lt_range.imp fun {a b} hab i hi j hj=>?_;simp only [List.mem_append,List.mem_filter,fS] at hi hj;have hi':∃ x,q[i.toNat]?=some x∧x.aH=(a:Int):=by
  rcases hi with ⟨_,_,x,hx,h1,_⟩ | ⟨_,_,x,hx,h1,_⟩ <;> exact ⟨x,hx,h1⟩
 have hj':∃ x,q[j.toNat]?=some x∧x.aH=(b:Int):=by
  rcases hj with ⟨_,_,x,hx,h1,_⟩ | ⟨_,_,x,hx,h1,_⟩ <;> exact ⟨x,hx,h1⟩
 obtain ⟨x,hx,h1⟩:=hi';obtain ⟨y,hy,h2⟩:=hj';rw [fY hx hy];unfold wP;simp only [Bool.or_eq_true,Bool.and_eq_true,decide_eq_true_eq];omega
theorem mV (n:Nat):(cZ n q (cI l sw r q)).Nodup:=by
 refine (jA n).imp_of_mem fun {i j} hi hj h e=>?_;subst e;unfold EI at h
 cases hx:q[i.toNat]? with
 | none=>rw [hx] at h;cases h
 | some x=>rw [hx] at h;simp [wP] at h
theorem placed_perm:(cZ r.words.length q (cI l sw r q)).Perm (eJ l sw r q):=by
 rw [List.perm_ext_iff_of_nodup (mV _) (oM l sw r q)];exact fun i=>eK
theorem kY:(eJ l sw r q).length≤q.length:=by
 have h2:(eJ l sw r q).Perm ((cL q.length).filter fun i=>decide (i∈eJ l sw r q)):=by
  rw [List.perm_ext_iff_of_nodup (oM l sw r q) ((qQ _).filter _)];intro i;rw [List.mem_filter,decide_eq_true_eq];exact ⟨fun h=>⟨iG.2 (iH h),h⟩,fun h=>h.2⟩
 have h3:(eJ l sw r q).length≤(cL q.length).length:=by rw [h2.length_eq];exact List.length_filter_le _ _
 simpa [cL] using h3
theorem xO (hw:r.words.length≤1000000) (hq:q.length≤1000000):oC (fun x0_ x1_=>PP x0_ x1_ q) (eJ l sw r q)=some (cZ r.words.length q (cI l sw r q)):=by
 have get:∀ i∈eJ l sw r q,∃ x,q[i.toNat]?=some x∧dN r x∧0≤i:=fun i hi=>by
  obtain ⟨x,hx,h⟩:=fC hi;exact ⟨x,hx,h,(iH hi).1⟩
 have hle:=kY (l:=l) (sw:=sw) (r:=r) (q:=q);refine CA (EI q) (by omega) (fun i hi j hj=>?_) (fun i hi=>?_) (fun i hi j hj k hk h1 h2=>?_) (fun i hi j hj hij=>?_) placed_perm (jA _)
 ·obtain ⟨x,hx,⟨a1,a2,a3⟩,a4⟩:=get i hi;obtain ⟨y,hy,⟨b1,b2,b3⟩,b4⟩:=get j hj;refine ⟨if x.aH - y.aH≠0 then x.aH - y.aH else x.cut - y.cut,?_,?_⟩
  ·unfold PP MQ;rw [bA a4,hx,Option.bind_some,bA b4,hy,Option.bind_some,bA (by omega),bA (by omega),e56];rfl
  rw [fY hx hy];unfold wP;simp only [Bool.or_eq_true,Bool.and_eq_true,decide_eq_true_eq]
  split <;> omega
 ·obtain ⟨x,hx,_⟩:=get i hi;rw [fY hx hx];simp [wP]
 ·obtain ⟨x,hx,_⟩:=get i hi;obtain ⟨y,hy,_⟩:=get j hj;obtain ⟨z,hz,_⟩:=get k hk;rw [fY hx hy] at h1;rw [fY hy hz] at h2;rw [fY hx hz];unfold wP at *;simp only [Bool.or_eq_true,Bool.and_eq_true,decide_eq_true_eq] at *;omega
 obtain ⟨x,hx,⟨_,hxc,_⟩,_⟩:=get i hi;obtain ⟨y,hy,⟨_,hyc,_⟩,_⟩:=get j hj;rw [fY hx hy,fY hy hx];exact wG hxc hyc (lV hi hj hij hx hy)
theorem mW:(cZ r.words.length q (cI l sw r q)).Pairwise (fun i j=>∀ x y,q[i.toNat]?=some x→q[j.toNat]?=some y→x.aH+x.cut≤y.aH):=by
 refine ((jA (l:=l) (sw:=sw) (r:=r) (q:=q) r.words.length).and (mV (l:=l) (sw:=sw) (r:=r) (q:=q) r.words.length)).imp_of_mem fun {i j} hi hj h x y hx hy=>?_;rw [eK] at hi hj;obtain ⟨x',hx',_,hxc,_⟩:=fC hi;obtain ⟨y',hy',_,hyc,_⟩:=fC hj;rw [hx] at hx';rw [hy] at hy';have:=Option.some.inj hx';subst this;have:=Option.some.inj hy';subst this;have h1:=h.1;rw [fY hx hy] at h1;exact nX hxc hyc (lV hi hj h.2 hx hy) h1
end
end T4
namespace T4
open Go Go.Proofs Pk
section
variable {l:aP} {sw:List bH} {r:aR} {q:List aB}
theorem oN (r:aR) (q:List aB) (s:Int×List aN) (i:Int):(dV r q s i).2.length≤s.2.length+2:=by
 unfold dV
 cases q[i.toNat]? with
 | none=>simp
 | some x=>dsimp only;split <;> simp
theorem AL (hw:r.words.length≤85) (hq:q.length≤25) (hp:∀ x∈q,x.bK.length≤1073741824) (t:List Int×List aB×List cN×(List (aD×bB))×List bH×List Int) (ht:t.2.2.1=r.words) (hl:t.1.length=(cZ r.words.length q (cI l sw r q)).length) :
  aO (qF t (cZ r.words.length q (cI l sw r q)) q r) (0,0,([]:List aN))=some ((cZ r.words.length q (cI l sw r q)).foldl (dV r q) (0,[])):=by
 have hS:∀ (k:Nat) (i:Int),(cZ r.words.length q (cI l sw r q))[k]?=some i→∃ x,0≤i∧q[i.toNat]?=some x∧dN r x:=fun k i hk=>by
  have hi:=eK.1 (List.mem_of_getElem? hk);obtain ⟨x,hx,h⟩:=fC hi;exact ⟨x,(iH hi).1,hx,h⟩
 have hlen:(cZ r.words.length q (cI l sw r q)).length≤25:=by
  have h1:=(placed_perm (l:=l) (sw:=sw) (r:=r) (q:=q)).length_eq;have h3:=kY (l:=l) (sw:=sw) (r:=r) (q:=q);omega
 refine jD (σ:=Int×List aN) (cZ r.words.length q (cI l sw r q)) (dV r q) (fun s=>(s.1,s.2)) (fun i s=>0≤s.1∧s.1≤r.words.length∧s.2.length≤2*i∧∀ (j:Nat) k x,i≤j→(cZ r.words.length q (cI l sw r q))[j]?=some k→q[k.toNat]?=some x→s.1≤x.aH) (fun i x s hi hx hI=>?_) (fun i x s hi hx hI=>?_) (fun s hI=>?_) ⟨by omega,by omega,by simp,fun j k x _ hk hx=>by
   obtain ⟨y,_,hy,h1,_⟩:=hS j k hk
   rw [hx] at hy;rw [Option.some.inj hy];exact h1⟩
 ·obtain ⟨h1,h2,h3,h4⟩:=hI;obtain ⟨y,h0,hy,a,b,c⟩:=hS i x hx;have h5:=h4 i x y (Nat.le_refl _) hx hy;have h7:=ZH (r:=r) (q:=y) ⟨a,b,c⟩ (by omega);have h6:∀ u v:Int,0≤u→u≤v→v≤r.words.length→HE (⟨t.2.2.1,r.out,r.within⟩:aR) u v=some (eW r u v):=fun u v g1 g2 g3=>by
   rw [ht];exact e34 (r:=r) g1 g2 g3 (by omega)
  unfold qF dV;rw [if_pos (by dsimp only;omega)];simp only [hx,Option.bind_some,hy];rw [bA h0,h7];simp only [Option.bind_some];rw [h6 y.aH (y.aH+y.cut) a (by omega) (by omega),e36 (hp y (List.mem_of_getElem? hy))];by_cases g:s.1 < y.aH
  ·simp only [g,if_true];rw [h6 s.1 y.aH h1 (by omega) (by omega)];simp only [Option.bind_some];rw [bA (by simp;omega)];simp only [Option.bind_some];rw [bA (by simp;omega)]
  simp only [g,if_false,Option.bind_some];rw [bA (by simp;omega)]
 ·obtain ⟨h1,h2,h3,h4⟩:=hI;obtain ⟨y,h0,hy,a,b,c⟩:=hS i x hx;have hl2:=oN r q s x;have hfst:(dV r q s x).1=y.aH+y.cut:=by unfold dV;rw [hy]
  refine ⟨by rw [hfst];omega,by rw [hfst];omega,by omega,fun j k z hj hk hz=>?_⟩;rw [hfst];have hc:=mW (l:=l) (sw:=sw) (r:=r) (q:=q);rw [List.pairwise_iff_getElem] at hc;have hkl:=(List.getElem?_eq_some_iff.1 hk);have hxl:=(List.getElem?_eq_some_iff.1 hx);obtain ⟨gi,ei⟩:=hxl;obtain ⟨gk,ek⟩:=hkl;have:=hc i j gi gk (by omega);rw [ei,ek] at this;exact this y z hy hz
 unfold qF;rw [if_neg (by dsimp only;omega)]
def gY (l:aP) (sw:List bH) (r:aR) (q:List aB):List aN×Int:=if eO l sw r q=0 then (HV r q (cZ r.words.length q (cI l sw r q)),0) else ([],eO l sw r q)
theorem yV:∀ (is:List Int) (s:Int×List aN),(∀ i∈is,i∈eJ l sw r q)→0≤s.1→s.1≤r.words.length→0≤(is.foldl (dV r q) s).1∧(is.foldl (dV r q) s).1≤r.words.length∧(is.foldl (dV r q) s).2.length≤s.2.length+2*is.length
 | [],s,_,h1,h2=>by simp;exact ⟨h1,h2⟩
 | i::is,s,hm,h1,h2=>by
  obtain ⟨x,hx,a,b,c⟩:=fC (hm i List.mem_cons_self);have hf:(dV r q s i).1=x.aH+x.cut:=by unfold dV;rw [hx]
  have hl:=oN r q s i;have:=yV is (dV r q s i) (fun j hj=>hm j (List.mem_cons_of_mem _ hj)) (by rw [hf];omega) (by rw [hf];omega);rw [List.foldl_cons,List.length_cons];omega
theorem e12 (h:qI l) (hRQ:RQ r q) (hq:∀ x∈q,x.cut≤9223372036854775807):PR l sw r q=some (gY l sw r q):=by
 have hsh:=LZ hRQ.words2;have hql:=hRQ.req1;have hwl:=hRQ.words1;have h1:aO (kH q) (0,([]:List Int))=some (cL q.length):=by
  have:=fA (List.range q.length) (fun (k:Nat)=>(k:Int)) (fun a=>a) (step:=kH q) (fun i x a hi hx ha=>?_) (fun a=>?_)
  ·exact this
  ·simp only [List.length_range] at hi;have hxi:x=i:=by rw [List.getElem?_range hi] at hx;simpa using hx.symm
   subst hxi;unfold kH;rw [if_pos (by simp;omega),bA (by simp;omega)]
  simp only [List.length_range];unfold kH;simp
 unfold PR gY eO;rw [show DD=kH from rfl,show DE=mL from rfl,show DG=kI from rfl,show DH=sB from rfl,show DI=sC from rfl];rw [e48 h,Option.bind_some,e49 hsh];by_cases a:jS l sw=0
 ·simp only [a,if_true];rw [if_neg (by simp),Option.bind_some];by_cases b:dA r=true
  ·simp only [b,if_true];rw [if_neg (by simp)];by_cases c:20 < q.length
   ·rw [if_pos (by omega)];simp [c]
   rw [if_neg (by omega),bA (by omega),h1,Option.bind_some];have hs:=wF (q:=q) (by omega);simp only [c,if_false];have hf:=yT (l:=l) (sw:=sw) hRQ b hq;have h9:=JG (l:=l) (sw:=sw) hf (cL q.length) (by simp [cL]) (⟨gD l,sw⟩,0) rfl;rw [hs];simp only [Option.bind_some];rw [h9];simp only [Option.bind_some];have hso:=xO (l:=l) (sw:=sw) (r:=r) (q:=q) (by omega) (by omega);rw [show (qO l sw r q).1=eJ l sw r q from rfl,hso];simp only [Option.bind_some];rw [AL hwl (by omega) (fun x hx=>Nat.le_trans (hRQ.req2 x hx).1 (by decide)) _ rfl (placed_perm (l:=l) (sw:=sw) (r:=r) (q:=q)).length_eq.symm];have hfi:=yV (l:=l) (sw:=sw) (r:=r) (q:=q) (cZ r.words.length q (cI l sw r q)) (0,[]) (fun i hi=>eK.1 hi) (by simp) (by simp);have hle:=kY (l:=l) (sw:=sw) (r:=r) (q:=q);rw [← (placed_perm (l:=l) (sw:=sw) (r:=r) (q:=q)).length_eq] at hle;unfold HV uF;generalize (cZ r.words.length q (cI l sw r q)).foldl (dV r q) (0,[])=s at hfi;obtain ⟨g1,g2,g3⟩:=hfi;simp only [List.length_nil,Option.bind_some] at g3 ⊢;by_cases g:s.1 < (r.words.length:Int)
   ·simp only [g,if_true];have h0:=e34 (r:=r) g1 g2 (Int.le_refl _) (by omega);rw [show (⟨r.words,r.out,r.within⟩:aR)=r from rfl,h0];simp only [Option.bind_some];rw [bA (by simp;omega)];rfl
   simp only [g,if_false,Option.bind_some];rfl
  simp [b]
 simp [a]
end
end T4
namespace T4
open Go Go.Proofs Pk
section
variable {l:aP} {sw:List bH} {r:aR} {q:List aB}
end
end T4
namespace T4
open Go Go.Proofs Pk
end T4
namespace T4
open Go Go.Proofs Pk
def iI (r:aR) (i j:Int):List aN:=if i < j then [⟨eW r i j,eW r i j,-1⟩] else []
def cO (r:aR) (q:List aB):List Int→Int→List aN
 | [],p=>iI r p r.words.length
 | i::is,p=>match q[i.toNat]? with
  | none=>cO r q is p
  | some x=>iI r p x.aH++⟨eW r x.aH (x.aH+x.cut),x.bK,i⟩::cO r q is (x.aH+x.cut)
theorem sV (r:aR) (q:List aB):∀ (is:List Int) (s:Int×List aN),uF r (is.foldl (dV r q) s)=s.2++cO r q is s.1
 | [],s=>by
  unfold cO uF iI;simp only [List.foldl_nil];by_cases g:s.1 < (r.words.length:Int) <;> simp [g]
 | i::is,s=>by
  rw [List.foldl_cons,sV r q is];unfold dV;rw [cO]
  cases h:q[i.toNat]? with
  | none=>rfl
  | some x =>
   dsimp only;unfold iI;by_cases g:s.1 < x.aH <;> simp [g]
theorem HW (r:aR) (q:List aB) (is:List Int):HV r q is=cO r q is 0:=by
 unfold HV;rw [sV];rfl
end T4
namespace T4
open Go Go.Proofs Pk
end T4
namespace T4
open Go Go.Proofs Pk
structure EK (q t:List aB) (w:Int→Int):Prop where
 len:t.length=q.length
 ok:∀ i,kP t i→kP q (w i)
 get:∀ i,kP t i→t[i.toNat]?=q[(w i).toNat]?
 inj:∀ i j,kP t i→kP t j→w i=w j→i=j
 one:∀ i j x y,kP q i→kP q j→q[i.toNat]?=some x→q[j.toNat]?=some y→x.minute=y.minute→x.by_=y.by_→i=j
section
variable {l:aP} {sw:List bH} {r:aR} {q t:List aB} {w:Int→Int}
theorem ME {q:List aB} {i:Int} (h:kP q i):∃ x,q[i.toNat]?=some x:=⟨_,List.getElem?_eq_getElem h.2⟩
structure MF (q t:List aB) (w:Int→Int) (a b:DS):Prop where
 which:a.1=b.1.map w
 acc:a.2.1=b.2.1
 tU:a.2.2.length=q.length
 len2:b.2.2.length=t.length
 err:∀ i,kP t i→b.2.2[i.toNat]?=a.2.2[(w i).toNat]?
theorem MF.step (H:EK q t w) {a b:DS} (h:MF q t w a b) {m:Int} (hm:kP t m):MF q t w (dO l sw r q a (w m)) (dO l sw r t b m):=by
 obtain ⟨x,hx⟩:=ME hm;obtain ⟨h1,h2,h3,h4,h5⟩:=h;have hset:∀ (v:Int) (i:Int),kP t i→(b.2.2.set m.toNat v)[i.toNat]?=(a.2.2.set (w m).toNat v)[(w i).toNat]?:=by
  intro v i hi;have hwi:=H.ok i hi;have hwm:=H.ok m hm;by_cases e:i=m
  ·subst e;rw [List.getElem?_set_self (by rw [h4];exact hi.2),List.getElem?_set_self (by rw [h3];exact hwi.2)]
  rw [List.getElem?_set_ne,List.getElem?_set_ne,h5 i hi]
  ·intro e2;exact e (H.inj i m hi hm (by have:=hwi.1;have:=hwm.1;omega))
  intro e2;exact e (by have:=hi.1;have:=hm.1;omega)
 unfold dO;rw [← H.get m hm,hx];dsimp only;rw [h2]
 split
 ·exact ⟨by rw [h1];simp,rfl,by simp [h3],by simp [h4],fun i hi=>hset _ i hi⟩
 exact ⟨h1,rfl,by simp [h3],by simp [h4],fun i hi=>hset _ i hi⟩
theorem MF.all (H:EK q t w):∀ (o:List Int) (a b:DS),(∀ m∈o,kP t m)→MF q t w a b→MF q t w ((o.map w).foldl (dO l sw r q) a) (o.foldl (dO l sw r t) b)
 | [],_,_,_,h=>h
 | m::o,a,b,ho,h=>by
  rw [List.map_cons,List.foldl_cons,List.foldl_cons];exact MF.all H o _ _ (fun k hk=>ho k (List.mem_cons_of_mem _ hk)) (h.step H (ho m List.mem_cons_self))
end
end T4
namespace T4
open Go Go.Proofs Pk
section
variable {l:aP} {sw:List bH} {r:aR} {q:List aB}
theorem yW {s:aD} (h:eU s=true):Sh s:=by
 unfold eU In at h;simp only [Bool.and_eq_true,decide_eq_true_eq] at h;show _≤_;omega
theorem lW {x:aB} (h:kL l sw r x=0):jM sw (oI l (eW r x.aH (x.aH+x.cut))) (oI l x.bK)=true∧fF x=true:=by
 rw [kN] at h;by_cases a:dN r x
 ·rw [if_neg (fun h=>h a)] at h;cases b:fF x
  ·rw [if_pos b] at h;omega
  rw [if_neg (by simp [b])] at h;cases c:wD r x
  ·rw [if_pos c] at h;omega
  rw [if_neg (by simp [c])] at h;cases d:In x.minute r.out (r.out+r.within)
  ·rw [if_pos d] at h;omega
  rw [if_neg (by simp [d])] at h;cases e:wE l sw r x
  ·rw [e] at h;simp at h
  exact ⟨e,rfl⟩
 rw [if_pos a] at h;omega
theorem AM (hr:dA r=true):∀ (is:List Int) (p:Int),(∀ i∈is,i∈eJ l sw r q)→∀ s∈cO r q is p,(∀ t∈s.bJ,eU t=true)∧(∀ t∈s.bY,eU t=true)∧s.bJ.length≤r.words.length∧(s.bY.length≤r.words.length∨s.bY.length≤8):=by
 have hold:∀ (i j:Int),∀ t∈eW r i j,eU t=true:=fun i j t ht=>by
  obtain ⟨x,hx,rfl⟩:=wB ht;unfold dA at hr;simp only [Bool.and_eq_true,List.all_eq_true] at hr;have:=hr.1.1.1 x hx;unfold lT at this;rw [Bool.and_eq_true] at this;exact this.1
 have hkeep:∀ (i j:Int),∀ s∈iI r i j,(∀ t∈s.bJ,eU t=true)∧(∀ t∈s.bY,eU t=true)∧s.bJ.length≤r.words.length∧(s.bY.length≤r.words.length∨s.bY.length≤8):=fun i j s hs=>by
  unfold iI at hs
  split at hs
  ·rw [List.mem_singleton.1 hs];exact ⟨hold i j,hold i j,mQ r i j,.inl (mQ r i j)⟩
  cases hs
 intro is
 induction is with
 | nil=>intro p _ s hs;unfold cO at hs;exact hkeep _ _ s hs
 | cons i is ih =>
  intro p hi s hs;have ho:=iH (hi i List.mem_cons_self);have hx:q[i.toNat]?=some (q[i.toNat]'ho.2):=List.getElem?_eq_getElem ho.2;generalize q[i.toNat]'ho.2=x at hx;have ha:=(lW (iV (hi i List.mem_cons_self) hx)).2;rw [cO,hx] at hs;dsimp only at hs;rcases List.mem_append.1 hs with h | h
  ·exact hkeep _ _ s h
  rcases List.mem_cons.1 h with rfl | h
  ·unfold fF at ha;simp only [Bool.and_eq_true,List.all_eq_true,decide_eq_true_eq] at ha;exact ⟨hold _ _,ha.1.1.2,mQ _ _ _,.inr (by dsimp only;omega)⟩
  exact ih _ (fun j hj=>hi j (List.mem_cons_of_mem _ hj)) s h
theorem sW (r:aR) (i j:Int):(iI r i j).length≤1:=by unfold iI;split <;> simp
theorem uG (r:aR) (q:List aB):∀ (is:List Int) (p:Int),(cO r q is p).length≤2*is.length+1
 | [],p=>by unfold cO;have:=sW r p r.words.length;omega
 | i::is,p=>by
  rw [cO]
  cases q[i.toNat]? with
  | none=>have:=uG r q is p;simp only [List.length_cons];omega
  | some x =>
   have:=uG r q is (x.aH+x.cut);have:=sW r p x.aH;simp only [List.length_append,List.length_cons];omega
end
end T4
namespace T4
open Go Go.Proofs Pk
end T4
namespace T4
open Go Go.Proofs Pk
section
variable {l:aP} {sw:List bH} {r:aR} {q:List aB}
theorem oO {r:aR} {i j:Int} (h0:0≤i) (h1:i≤j) (h2:j≤r.words.length):((eW r i j).length:Int)=j - i:=by
 rw [pG];simp;omega
def EM (r:aR) (q:List aB):List Int→Int→Prop
 | [],p=>p≤r.words.length
 | i::is,p=>∃ x,q[i.toNat]?=some x∧0≤i∧p≤x.aH∧0≤x.cut∧x.aH+x.cut≤r.words.length∧0 < x.cut+x.bK.length∧EM r q is (x.aH+x.cut)
theorem yX:∀ (is:List Int) (p:Int),p≤r.words.length→(∀ i∈is,i∈eJ l sw r q)→is.Pairwise (fun i j=>∀ x y,q[i.toNat]?=some x→q[j.toNat]?=some y→x.aH+x.cut≤y.aH)→(∀ i∈is,∀ x,q[i.toNat]?=some x→p≤x.aH)→EM r q is p
 | [],p,hp,_,_,_=>hp
 | i::is,p,hp,hm,hc,h0=>by
  obtain ⟨x,hx,ha,hb,hcx⟩:=fC (hm i List.mem_cons_self);have hk:=(lW (iV (hm i List.mem_cons_self) hx)).2;rw [List.pairwise_cons] at hc;refine ⟨x,hx,(iH (hm i List.mem_cons_self)).1,h0 i List.mem_cons_self x hx,hb,by omega,?_,yX is _ (by omega) (fun j hj=>hm j (List.mem_cons_of_mem _ hj)) hc.2 (fun j hj y hy=>hc.1 j hj x y hx hy)⟩;unfold fF at hk;simp only [Bool.and_eq_true,decide_eq_true_eq] at hk;exact hk.1.2
theorem wI:EM r q (cZ r.words.length q (cI l sw r q)) 0 :=
 yX (l:=l) (sw:=sw) _ 0 (by omega) (fun i hi=>eK.1 hi) mW (fun i hi x hx=>by
  obtain ⟨y,hy,h,_⟩:=fC (eK.1 hi)
  rw [hx] at hy;rw [Option.some.inj hy];exact h)
end
end T4
namespace T4
open Go Go.Proofs Pk
section
variable {β:Type}
theorem EN (l0:List β) (p:β→Bool) {step:Int×Int×List β→Option ((Int×Int×List β)⊕(Int×List β))}
  (hs:∀ (i j:Nat) (s:List β) (x:β),j < l0.length→i≤j→s.length=l0.length→s[j]?=some x→step ((i:Int),(j:Int),s)=some (.inl (if p x then ((i:Int),(j:Int)+1,s) else ((i:Int)+1,(j:Int)+1,s.set i x))))
  (he:∀ (i:Int) (s:List β),s.length=l0.length→step (i,(l0.length:Int),s)=some (.inr (i,s))) :
  ∀ (k i j:Nat) (s:List β),l0.length - j=k→j≤l0.length→i < j→s.length=l0.length→s.take i=(l0.take j).filter (fun x=>!p x)→s.drop j=l0.drop j →
   ∃ (i':Nat) (s':List β),aO step ((i:Int),(j:Int),s)=some ((i':Int),s')∧i' < l0.length∧s'.length=l0.length∧s'.take i'=l0.filter (fun x=>!p x):=by
 intro k
 induction k with
 | zero =>
  intro i j s hk hj hij hl ht hd;obtain rfl:j=l0.length:=by omega
  exact ⟨i,s,bX (he _ s hl),hij,hl,by rw [ht,List.take_length]⟩
 | succ k ih =>
  intro i j s hk hj hij hl ht hd;have hlt:j < l0.length:=by omega
  have hx:s[j]?=some (l0[j]):=by
   have h:=congrArg (fun l=>l[0]?) hd;simp only [List.getElem?_drop,Nat.add_zero] at h;rw [h];exact List.getElem?_eq_getElem hlt
  have hst:=hs i j s _ hlt (by omega) hl hx;have hd1:s.drop (j+1)=l0.drop (j+1):=by
   have h:=congrArg (List.drop 1) hd;simp only [List.drop_drop] at h;exact h
  by_cases e:p l0[j]=true
  ·rw [if_pos e] at hst;rw [cB hst];have:=ih i (j+1) s (by omega) (by omega) (by omega) hl (by rw [ht,List.take_succ_eq_append_getElem hlt,List.filter_append];simp [e]) hd1;simpa using this
  rw [if_neg e] at hst;rw [cB hst];have hi:i < s.length:=by omega
  have:=ih (i+1) (j+1) (s.set i l0[j]) (by omega) (by omega) (by omega) (by simpa using hl) (by
   rw [List.take_succ_eq_append_getElem (by simpa using hi),List.take_set_of_le (Nat.le_refl i),ht,List.take_succ_eq_append_getElem hlt,List.filter_append]
   simp [e]) (by rw [List.drop_set_of_lt (by omega)];exact hd1)
  simpa using this
theorem uH {l:List β} {p:β→Bool}:(l.take (l.findIdx p)).filter (fun x=>!p x)=l.take (l.findIdx p):=by
 rw [List.filter_eq_self];intro x hx;obtain ⟨i,hi,rfl⟩:=List.mem_take_iff_getElem.1 hx;simpa using List.not_of_lt_findIdx (p:=p) (xs:=l) (i:=i) (by omega)
theorem yY (l0:List β) (p:β→Bool) (z:β) {step:Int×Int×List β→Option ((Int×Int×List β)⊕(Int×List β))}
  (hs:∀ (i j:Nat) (s:List β) (x:β),j < l0.length→i≤j→s.length=l0.length→s[j]?=some x→step ((i:Int),(j:Int),s)=some (.inl (if p x then ((i:Int),(j:Int)+1,s) else ((i:Int)+1,(j:Int)+1,s.set i x))))
  (he:∀ (i:Int) (s:List β),s.length=l0.length→step (i,(l0.length:Int),s)=some (.inr (i,s))) (hl:l0.length≤1073741824) :
  (if (if l0.any p then ((l0.findIdx p:Nat):Int) else -1)=(-1) then some l0 else
   cE (-9223372036854775808≤((if l0.any p then ((l0.findIdx p:Nat):Int) else -1)+1)∧((if l0.any p then ((l0.findIdx p:Nat):Int) else -1)+1)≤9223372036854775807) <|
   (aO step ((if l0.any p then ((l0.findIdx p:Nat):Int) else -1),((if l0.any p then ((l0.findIdx p:Nat):Int) else -1)+1),l0)).bind fun e =>
   cE (0≤e.1) <| cE (e.1.toNat≤e.2.length) <| cE (e.1.toNat < e.2.length) <|
   cE (e.1.toNat≤(e.2.take e.1.toNat++List.replicate (e.2.length - e.1.toNat) z).length) <|
   some ((e.2.take e.1.toNat++List.replicate (e.2.length - e.1.toNat) z).take e.1.toNat))=some (l0.filter (fun x=>!p x)):=by
 by_cases h:l0.any p=true
 ·have hlt:l0.findIdx p < l0.length:=by
   rw [List.any_eq_true] at h;obtain ⟨x,hx,hp⟩:=h;exact List.findIdx_lt_length_of_exists ⟨x,hx,hp⟩
  simp only [h,if_true];rw [if_neg (by omega),bA (by omega)]
  obtain ⟨i',s',h1,h2,h3,h4⟩:=EN l0 p hs he (l0.length - (l0.findIdx p+1)) (l0.findIdx p) (l0.findIdx p+1) l0 rfl (by omega) (by omega) rfl (by
   rw [List.take_succ_eq_append_getElem hlt,List.filter_append,uH];have:=List.findIdx_getElem (w:=hlt)
   simp [this]) rfl
  rw [show ((l0.findIdx p:Nat):Int)+1=((l0.findIdx p+1:Nat):Int) by omega,h1,Option.bind_some];rw [bA (by dsimp only;omega),bA (by dsimp only;omega),bA (by dsimp only;omega),bA (by simp;omega)];simp only [Int.toNat_natCast];rw [List.take_append_of_le_length (by simp;omega),List.take_take,Nat.min_self,h4]
 simp only [h];rw [if_pos (by simp)];congr 1;symm;rw [List.filter_eq_self];intro x hx;rw [List.any_eq_true] at h;simpa using fun hp=>h ⟨x,hx,hp⟩
end
end T4
namespace T4
open Go Go.Proofs Pk
theorem EO (n lo hi:Int):rF n lo hi=some (In n lo hi):=by
 unfold rF In;by_cases h:lo≤n <;> simp [h]
theorem ZL (l:List UInt8) (f:Int→Option Bool):HI l f=pY l (fun x=>f (x.toNat:Int)):=rfl
theorem ZM (l:List aD) (f:aD→Option Bool):HJ l f=pY l f:=rfl
theorem SG (l:List Int) (v:Int):vP l v=GU l v:=rfl
theorem ZN (l:List aK) (f:aK→Option Bool):zT l f=pY l f:=rfl
theorem ZO (l:List aK) (f:aK→Option Bool):zS l f=GS l f:=rfl
theorem ZP (c:UInt8):zR (c.toNat:Int)=some (NH c):=RS c
theorem SH {s:aD} (h:Sh s):vO s=some (eU s):=by
 unfold vO;rw [EO,Option.bind_some];by_cases a:In (s.length:Int) 1 32=true
 ·rw [if_pos a,bA h,ZL,eF NH (fun c _=>ZP c)];simp [eU,a]
 rw [if_neg a];simp only [eU];simp [a]
theorem ZQ {l:List aD} {lo hi:Int} (h:∀ s∈l,eU s=true) (hl:lo≤l.length∧(l.length:Int)≤hi):DT l lo hi=some true:=by
 unfold DT;rw [EO,Option.bind_some,if_pos (by simpa [In] using hl),ZM,eF eU (fun s hs=>SH (yW (h s hs)))];simp only [Option.bind_some];congr 1;rw [List.all_eq_true];exact h
def eL:List aK→Nat→List Int
 | [],_=>[]
 | y::l,i=>if y.gone=0 then (i:Int)::eL l (i+1) else eL l (i+1)
theorem yZ:∀ (a:List aK) (i:Nat),(eL a i).length≤a.length
 | [],i=>by simp [eL]
 | y::a,i=>by
  have:=yZ a (i+1);simp only [eL];split <;> simp <;> omega
theorem uI:∀ (a b:List aK) (i j:Nat),(∀ y∈a,y.gone=0)→j < a.length→(eL (a++b) i)[j]?=some ((i+j:Nat):Int)
 | [],b,i,j,_,h=>by simp at h
 | y::a,b,i,j,h0,h=>by
  simp only [List.cons_append,eL];rw [if_pos (h0 y List.mem_cons_self)]
  cases j with
  | zero=>rfl
  | succ j =>
   rw [List.getElem?_cons_succ,uI a b (i+1) j (fun z hz=>h0 z (List.mem_cons_of_mem _ hz)) (by simpa using h)];congr 2;omega
theorem MG {a b:List aK} (h0:∀ y∈a,y.gone=0):a.length≤(eL (a++b) 0).length:=by
 rcases Nat.eq_zero_or_pos a.length with h | h
 ·omega
 have:=(List.getElem?_eq_some_iff.1 (uI a b 0 (a.length - 1) h0 (by omega))).1;omega
theorem l7 (s:Nat×Nat×List Int×List aK) (hl:s.2.2.2.length≤1000000):∀ (k c j:Nat) (a:List Int),s.2.2.2.length - j=k→j≤s.2.2.2.length→c≤j→a.length≤j→aO (oE s) (c,j,a)=some (a++eL (s.2.2.2.drop j) j):=by
 intro k
 induction k with
 | zero =>
  intro c j a hk hj hc ha;obtain rfl:j=s.2.2.2.length:=by omega
  rw [List.drop_length];refine bX ?_;unfold oE;rw [if_neg (by simp)];simp [eL]
 | succ k ih =>
  intro c j a hk hj hc ha;have hlt:j < s.2.2.2.length:=by omega
  have hx:s.2.2.2[j]?=some s.2.2.2[j]:=List.getElem?_eq_getElem hlt;rw [List.drop_eq_getElem_cons hlt];simp only [eL];by_cases e:(s.2.2.2[j]).gone=0
  ·have:oE s (c,j,a)=some (.inl (c+1,j+1,a++[(j:Int)])):=by
    unfold oE;simp only [hx,Option.bind_some];rw [if_pos (by omega),if_neg (by simp [e]),bA (by omega)];simp only [Option.bind_some];rw [bA (by omega)];rfl
   rw [cB this,ih (c+1) (j+1) _ (by omega) (by omega) (by omega) (by simp;omega),if_pos e];simp
  have:oE s (c,j,a)=some (.inl (c,j+1,a)):=by
   unfold oE;simp only [hx,Option.bind_some];rw [if_pos (by omega),if_pos e];rfl
  rw [cB this,ih c (j+1) _ (by omega) (by omega) (by omega) (by omega),if_neg e]
def gn (k:Int) (y:aK):aK:=⟨y.item,k⟩
def oW (k:Int) (l:List aD):List aK:=l.map (fun s=>⟨⟨s,-1,k⟩,0⟩)
theorem l9 (V:List Int) (x:cQ) (s:Nat×Nat×List Int×List aK) (A B T:List aK) (hat:x.at_=A.length) (hcut:x.cut=B.length) (hV:∀ j,j < A.length+B.length→V[j]?=some (j:Int)) (hl:A.length+B.length≤V.length) :
  ∀ (k i:Nat),B.length - i=k→i≤B.length→aO (vU V x s) (i,A++(B.take i).map (gn ((s.2.1:Int)+1))++(B.drop i++T))=some (A++B.map (gn ((s.2.1:Int)+1))++T):=by
 have hL:((V.drop x.at_.toNat).take ((x.at_+x.cut).toNat - x.at_.toNat)).length=B.length:=by
  rw [List.length_take,List.length_drop];omega
 intro k
 induction k with
 | zero =>
  intro i hk hi;obtain rfl:i=B.length:=by omega
  rw [List.take_length,List.drop_length,List.nil_append];refine bX ?_;unfold vU;rw [hL];simp
 | succ k ih =>
  intro i hk hi;have hlt:i < B.length:=by omega
  have h1:((V.drop x.at_.toNat).take ((x.at_+x.cut).toNat - x.at_.toNat))[i]?=some ((A.length+i:Nat):Int):=by
   rw [List.getElem?_take_of_lt (by omega),List.getElem?_drop,show x.at_.toNat+i=A.length+i by omega,hV _ (by omega)]
  have hlA:(A++(B.take i).map (gn ((s.2.1:Int)+1))).length=A.length+i:=by simp;omega
  have h2:(A++(B.take i).map (gn ((s.2.1:Int)+1))++(B.drop i++T))[A.length+i]?=some B[i]:=by
   rw [List.getElem?_append_right (by omega),hlA,Nat.sub_self,List.drop_eq_getElem_cons hlt];rfl
  have h3:(A++(B.take i).map (gn ((s.2.1:Int)+1))++(B.drop i++T)).set (A.length+i) (gn ((s.2.1:Int)+1) B[i])=A++(B.take (i+1)).map (gn ((s.2.1:Int)+1))++(B.drop (i+1)++T):=by
   rw [List.set_append,if_neg (by omega),hlA,Nat.sub_self,List.drop_eq_getElem_cons hlt,List.take_succ_eq_append_getElem hlt,List.cons_append,List.set_cons_zero,List.map_append];simp only [List.map_cons,List.map_nil,List.append_assoc,List.cons_append,List.nil_append]
  rw [cB (s':=(i+1,A++(B.take (i+1)).map (gn ((s.2.1:Int)+1))++(B.drop (i+1)++T)))]
  ·exact ih (i+1) (by omega) (by omega)
  unfold vU;rw [hL,if_pos (by omega)];simp only [h1,Option.bind_some];rw [bA (by omega)];simp only [Int.toNat_natCast,h2,Option.bind_some];rw [← h3];rfl
theorem wJ {steps:List cQ} {t:List aK×List cJ×List Int} (i ch:Nat) (live:List Int) (A B T:List aK) (x:cQ) (hx:steps[i]?=some x) (hu:x.undo=0) (hat:x.at_=A.length) (hcut:x.cut=B.length) (hc4:B.length≤4) (hp4:x.bK.length≤4)
    (hpt:∀ s∈x.bK,eU s=true) (h0:0 < B.length+x.bK.length) (hA:∀ y∈A++B,y.gone=0) (ht:t.2.2=[]) (hlen:(A++B++T).length≤100000) (hch:ch≤1000) (hlive:live.length≤1000) :
    iT steps t (i,ch,live,A++B++T)=some (.inl (i+1,ch+1,live++[(ch:Int)+1],A++oW ((ch:Int)+1) x.bK++(B.map (gn ((ch:Int)+1))++T))):=by
  have hge:A.length+B.length≤(eL (A++B++T) 0).length:=by have:=MG (b:=T) hA;simpa using this
  have hle:=yZ (A++B++T) 0;have hV:∀ j,j < A.length+B.length→(eL (A++B++T) 0)[j]?=some (j:Int):=fun j hj=>by rw [uI (A++B) T 0 j hA (by simpa using hj)];simp
  have h7:=l7 (i,ch,live,A++B++T) (by dsimp only;omega) _ 0 0 [] rfl (by omega) (by omega) (by simp);simp only [List.drop_zero,List.nil_append] at h7;have h9:=l9 (eL (A++B++T) 0) x (i,ch,live,A++B++T) A B T hat hcut hV hge B.length 0 (by omega) (by omega);simp only [List.take_zero,List.map_nil,List.append_nil,List.drop_zero,← List.append_assoc] at h9;have h8:aO (sN (eL (A++B++T) 0) x (i,ch,live,A++B++T) t) 0=some (.inl ()):=by
    have hL:(((eL (A++B++T) 0).drop x.at_.toNat).take ((x.at_+x.cut).toNat - x.at_.toNat)).length=B.length:=by
      rw [List.length_take,List.length_drop];omega
    have:=iB B (fun _=>true) (e:=(.inl ():Unit⊕((Nat×List Int×List aK)⊕((Nat×Nat×List Int×List aK)⊕((Nat×List Int×List aK)⊕((Nat×Nat)⊕(List Int×List aK×List cJ×List Int×Nat))))))) (out:=.inl ()) (step:=sN (eL (A++B++T) 0) x (i,ch,live,A++B++T) t) (fun j y hj hy=>?_) ?_
    · rw [this];simp
    · have h1:(((eL (A++B++T) 0).drop x.at_.toNat).take ((x.at_+x.cut).toNat - x.at_.toNat))[j]?=some ((A.length+j:Nat):Int):=by
        rw [List.getElem?_take_of_lt (by omega),List.getElem?_drop,show x.at_.toNat+j=A.length+j by omega,hV _ (by omega)]
      have h2:(A++B++T)[A.length+j]?=some ((A++B++T)[A.length+j]'(by simp;omega)):=List.getElem?_eq_getElem _;unfold sN;rw [hL,if_pos (by omega)];simp only [h1,Option.bind_some];rw [bA (by omega)];simp only [Int.toNat_natCast,h2,Option.bind_some];rw [SG,nK,ht];simp
    unfold sN;rw [hL];simp
  have h3:aO (nM x (i,ch,live,A++B++T)) (0,([]:List aK))=some (oW ((ch:Int)+1) x.bK):=by
    have:=fA x.bK (fun s=>(⟨⟨s,-1,(ch:Int)+1⟩,0⟩:aK)) (fun a=>a) (step:=nM x (i,ch,live,A++B++T)) (fun i x a hi hx ha=>?_) (fun a=>?_)
    · exact this
    · unfold nM;rw [if_pos (by simpa using hi)];simp only [hx,Option.bind_some];rw [bA (by omega)]
    unfold nM;simp
  unfold iT;simp only [hx,Option.bind_some];rw [if_pos (by have:=(List.getElem?_eq_some_iff.1 hx).1;omega),if_neg (by simp [hu]),h7];simp only [Option.bind_some];rw [if_pos (by omega),EO];simp only [Option.bind_some];rw [if_pos (by simp [In];omega),bA (by omega),if_pos (by omega),ZQ hpt (by omega)];simp only [Option.bind_some,if_true];rw [bA (by omega),if_pos (by omega)];simp only [Option.bind_some];rw [bA (by omega)]
  have hpl:((
                if 0 < x.cut then (
                  ((eL (A++B++T) 0)[x.at_.toNat]?).bind fun x1 =>
                  some x1)
                else
                ((
                  if 0 < x.at_ then (
                    cE (-9223372036854775808≤(x.at_ - 1)∧(x.at_ - 1)≤9223372036854775807) <|
                    ((eL (A++B++T) 0)[(x.at_ - 1).toNat]?).bind fun x0 =>
                    cE (-9223372036854775808≤(x0+1)∧(x0+1)≤9223372036854775807) <|
                    some (x0+1))
                  else
                  some 0
                ):Option (Int)).bind fun t1 =>
                some t1
            ):Option (Int))=some (A.length:Int):=by
    have hAl:A.length≤100000:=by simp at hlen;omega
    by_cases c:0 < x.cut
    · rw [if_pos c,hV _ (by omega)];simp only [Option.bind_some];congr 1;omega
    rw [if_neg c];by_cases d:0 < x.at_
    · rw [if_pos d,bA (by omega),hV _ (by omega)];simp only [Option.bind_some];rw [bA (by omega)];simp only [Option.bind_some];congr 1;omega
    rw [if_neg d];simp only [Option.bind_some];congr 1;omega
  rw [hpl];simp only [Option.bind_some];have hAl:A.length+B.length≤100000:=by simp at hlen;omega
  rw [bA (by omega),bA (by omega),bA (by omega),h8];simp only [Option.bind_some];rw [h9];simp only [Option.bind_some];rw [h3];simp only [Option.bind_some,Int.toNat_natCast];rw [bA (by omega),bA (by simp),bA (by simp [oW] at *;omega)];simp only [Option.bind_some];rw [bA (by omega)];simp
end T4
namespace T4
open Go Go.Proofs Pk
def uN (k:Int) (y:aK):aK:=if y.gone=k then ⟨y.item,0⟩ else y
theorem EP {α:Type} {l:List α} {j:Nat} {x:α} (h:l[j]?=some x):l.set j x=l:=by
 obtain ⟨h1,rfl⟩:=List.getElem?_eq_some_iff.1 h;exact List.set_getElem_self h1
theorem AN {steps:List cQ} {t:List aK×List cJ×List Int} (i ch:Nat) (lv:List Int) (l:List aK) (x:cQ) (k:Int) (hx:steps[i]?=some x) (hu:x.undo=k) (hk:0 < k) (hlv:k∉lv) (hm:∀ y∈l,y.item.maker=k→y.gone=0) (hlen:l.length≤100000) (hlive:lv.length≤1000) :
  iT steps t (i,ch,lv++[k],l)=some (.inl (i+1,ch,lv,(l.filter (fun y=>!decide (y.item.maker=k))).map (uN k))):=by
 have h1:vP (lv++[k]) k=some true:=by rw [SG,nK];simp
 have h2:zT l (fun x0_=>rG x0_ k)=some true:=by
  rw [ZN,eF (fun y=>!decide (y.item.maker=k)||decide (y.gone=0)) (fun y _=>by unfold rG;by_cases c:y.item.maker=k <;> simp [c])];congr 1;rw [List.all_eq_true];intro y hy;by_cases c:y.item.maker=k
  ·simp [c,hm y hy c]
  simp [c]
 have h3:zS l (fun x0_=>tZ x0_ x)=some (if l.any (fun y=>decide (y.item.maker=k)) then ((l.findIdx (fun y=>decide (y.item.maker=k)):Nat):Int) else -1):=by
  rw [ZO];exact rY _ (fun y _=>by unfold tZ;rw [hu])
 have d3:=yY l (fun y=>decide (y.item.maker=k)) (⟨(⟨[],0,0⟩:Item),0⟩:aK) (step:=vQ (i,ch,lv++[k],l) x) (fun a b s y hb hab hs hy=>by
   unfold vQ tZ;simp only [Int.toNat_natCast,hy,Option.bind_some,hu];rw [if_pos (by omega),bA (by omega)];by_cases c:y.item.maker=k
   ·simp only [c,decide_true,if_true,Option.bind_some];rw [bA (by omega)]
   simp only [c,decide_false,Bool.false_eq_true,if_false];rw [bA (by omega),List.getElem?_eq_getElem (show a < s.length by omega)]
   simp only [Option.bind_some];rw [bA (by omega)];simp only [Option.bind_some];rw [bA (by omega)])
  (fun a s hs=>by unfold vQ;rw [if_neg (by simp)]) (by omega)
 have ha:(lv++[k]).any (fun y=>decide (y=k))=true:=by simp
 have h5:aO (sM (i,ch,lv++[k],l) x) 0=some (.inr (((lv++[k]).findIdx (fun y=>decide (y=k)):Nat):Int)):=by
  have hl:aO (sM (i,ch,lv++[k],l) x) 0=some (yC (ε:=Unit⊕Int) (fun j y=>if decide (y=k) then some (.inr (j:Int)) else none) (.inl ()) (lv++[k]) 0):=by
   refine pW (ε:=Unit⊕Int) (lv++[k]) (fun j y=>if decide (y=k) then some (.inr (j:Int)) else none) (.inl ()) (fun j y hj hy=>?_) ?_
   ·unfold sM zU;simp only [hy,Option.bind_some,hu];rw [if_pos (by omega)];by_cases c:y=k <;> simp [c]
   unfold sM;simp
  rw [hl,pD,if_pos ha];simp
 have d6:=yY (lv++[k]) (fun y=>decide (y=k)) (0:Int) (step:=vT (i,ch,lv++[k],l) x) (fun a b s y hb hab hs hy=>by
   unfold vT zU;simp only [Int.toNat_natCast,hy,Option.bind_some,hu];rw [if_pos (by omega),bA (by omega)];by_cases c:y=k
   ·simp only [c,decide_true,if_true,Option.bind_some];rw [bA (by simp at hb;omega)]
   simp only [c,decide_false,Bool.false_eq_true,if_false];rw [bA (by omega),List.getElem?_eq_getElem (show a < s.length by omega)];simp at hb
   simp only [Option.bind_some];rw [bA (by omega)];simp only [Option.bind_some];rw [bA (by omega)])
  (fun a s hs=>by unfold vT;rw [if_neg (by simp)]) (by simp;omega)
 simp only [ha,if_true] at d6;have e6:(lv++[k]).filter (fun y=>!decide (y=k))=lv:=by
  rw [List.filter_append];have:lv.filter (fun y=>!decide (y=k))=lv:=by
   rw [List.filter_eq_self];intro y hy;have:y≠k:=fun e=>hlv (e▸hy);simp [this]
  rw [this];simp
 rw [e6] at d6;have h4:∀ f:List aK,aO (sL f x) (0,f)=some (f.map (uN k)):=by
  intro f;have key:∀ (n j:Nat),f.length - j=n→j≤f.length→aO (sL f x) (j,(f.take j).map (uN k)++f.drop j)=some (f.map (uN k)):=by
   intro n
   induction n with
   | zero =>
    intro j hn hj;obtain rfl:j=f.length:=by omega
    rw [List.take_length,List.drop_length,List.append_nil];refine bX ?_;unfold sL;simp
   | succ n ih =>
    intro j hn hj;have hlt:j < f.length:=by omega
    have hy:((f.take j).map (uN k)++f.drop j)[j]?=some f[j]:=by
     rw [List.getElem?_append_right (by simp;omega),List.length_map,List.length_take,Nat.min_eq_left (by omega),Nat.sub_self,List.drop_eq_getElem_cons hlt];rfl
    have hset:((f.take j).map (uN k)++f.drop j).set j (uN k f[j])=(f.take (j+1)).map (uN k)++f.drop (j+1):=by
     rw [List.set_append,if_neg (by simp;omega),List.length_map,List.length_take,Nat.min_eq_left (by omega),Nat.sub_self,List.drop_eq_getElem_cons hlt,List.take_succ_eq_append_getElem hlt,List.set_cons_zero,List.map_append];simp only [List.map_cons,List.map_nil,List.append_assoc,List.cons_append,List.nil_append]
    rw [cB (s':=(j+1,(f.take (j+1)).map (uN k)++f.drop (j+1)))]
    ·exact ih (j+1) (by omega) (by omega)
    rw [← hset];unfold sL;rw [if_pos (by simpa using hlt)];simp only [hy,Option.bind_some,hu];by_cases c:(f[j]).gone=k
    ·rw [if_pos c];simp only [Option.bind_some,uN,if_pos c]
    rw [if_neg c];simp only [Option.bind_some,uN,if_neg c];congr 4
    symm
    exact EP hy
  simpa using key f.length 0 (by omega) (by omega)
 unfold iT;simp only [hx,Option.bind_some];rw [if_pos (by have:=(List.getElem?_eq_some_iff.1 hx).1;omega),if_pos (by omega),hu,h1];simp only [Option.bind_some,if_true];rw [h2];simp only [Option.bind_some,if_true];rw [h3];simp only [Option.bind_some];rw [d3];simp only [Option.bind_some];rw [h4];simp only [Option.bind_some];rw [h5];simp only [Option.bind_some];rw [d6];simp only [Option.bind_some]
end T4
namespace T4
open Go Go.Proofs Pk
def dX:List aN→Nat
 | []=>0
 | s::v=>if 0≤s.request then dX v+1 else dX v
def iJ (k:Nat):List Int:=(List.range k).map (fun (j:Nat)=>(j:Int)+1)
theorem qR (k:Nat):iJ (k+1)=iJ k++[(k:Int)+1]:=by simp [iJ,List.range_succ]
theorem sX (k:Nat):(iJ k).length=k:=by simp [iJ]
theorem AO (k:Nat):((k:Int)+1)∉iJ k:=by
 simp only [iJ,List.mem_map,List.mem_range];rintro ⟨j,hj,e⟩;omega
def it (O:List aK):List aN→Nat→List aK
 | [],p=>O.drop p
 | s::v,p=>if 0≤s.request then oW ((dX v:Int)+1) s.bY++(((O.drop p).take s.bJ.length).map (gn ((dX v:Int)+1))++it O v (p+s.bJ.length)) else (O.drop p).take s.bJ.length++it O v (p+s.bJ.length)
def oS (n:Nat):List aN→Nat→Prop
 | [],p=>p≤n
 | s::v,p=>p+s.bJ.length≤n∧(0≤s.request→s.bJ.length≤4∧s.bY.length≤4∧(∀ t∈s.bY,eU t=true)∧0 < s.bJ.length+s.bY.length)∧oS n v (p+s.bJ.length)
def cV:List aN→Nat→List cQ
 | [],_=>[]
 | s::v,p=>cV v (p+s.bJ.length)++(if 0≤s.request then [⟨0,p,s.bJ.length,s.bY⟩] else [])
theorem gG:∀ (v:List aN) (p:Nat),(cV v p).length=dX v
 | [],_=>rfl
 | s::v,p=>by simp only [cV,dX,List.length_append,gG v];split <;> simp
def iW:Nat→List cQ
 | 0=>[]
 | k+1=>⟨(k:Int)+1,0,0,[]⟩::iW k
theorem fG (O:List aK) (p c:Nat):O.take (p+c)=O.take p++(O.drop p).take c:=by rw [List.take_add]
section
variable {O:List aK} (hO:∀ y∈O,y.item.maker=0∧y.gone=0)
theorem uJ:∀ (v:List aN) (p:Nat),oS O.length v p→(O.take p++it O v p).length≤O.length+4*dX v
 | [],p,h=>by simp [it,dX]
 | s::v,p,h=>by
  obtain ⟨h1,h2,h3⟩:=h;have ih:=uJ v _ h3;rw [fG] at ih;simp only [it,dX];by_cases c:0≤s.request
  ·have:=(h2 c).2.1;rw [if_pos c,if_pos c];simp [oW] at ih ⊢;omega
  rw [if_neg c,if_neg c];simpa using ih
include hO in
theorem wK:∀ (v:List aN) (p:Nat),∀ y∈it O v p,(0≤y.item.maker∧y.item.maker≤dX v)∧(0≤y.gone∧y.gone≤dX v)
 | [],p,y,hy=>by
  simp only [it] at hy;have:=hO y (List.mem_of_mem_drop hy);rw [this.1,this.2];simp
 | s::v,p,y,hy=>by
  simp only [it] at hy;by_cases c:0≤s.request
  ·rw [if_pos c] at hy;simp only [dX,if_pos c];simp only [List.mem_append,oW,List.mem_map] at hy;rcases hy with ⟨t,ht,rfl⟩ | ⟨z,hz,rfl⟩ | hy
   ·simp;omega
   ·have:=hO z (List.mem_of_mem_drop (List.mem_of_mem_take hz));simp only [gn,this.1];omega
   have:=wK v _ y hy;omega
  rw [if_neg c] at hy;simp only [dX,if_neg c];rw [List.mem_append] at hy;rcases hy with hy | hy
  ·have:=hO y (List.mem_of_mem_drop (List.mem_of_mem_take hy));rw [this.1,this.2];omega
  exact wK v _ y hy
include hO in
theorem uK {steps:List cQ} {t:List aK×List cJ×List Int} (ht:t.2.2=[]) (hn:O.length≤100):∀ (v:List aN) (p i:Nat) (rest:List cQ),dX v≤100→oS O.length v p→steps.drop i=cV v p++rest →
  aO (iT steps t) (i,0,([]:List Int),O)=aO (iT steps t) (i+dX v,dX v,iJ (dX v),O.take p++it O v p)
 | [],p,i,rest,_,_,_=>by simp [dX,it,iJ]
 | s::v,p,i,rest,hk,hg,hs=>by
  obtain ⟨h1,h2,h3⟩:=hg;by_cases c:0≤s.request
  ·have hk':dX v+1≤100:=by simpa [dX,c] using hk
   rw [cV,if_pos c,List.append_assoc] at hs;rw [uK ht hn v _ i _ (by omega) h3 hs];have hx:steps[i+dX v]?=some ⟨0,p,s.bJ.length,s.bY⟩:=by
    have:=congrArg (fun l=>l[dX v]?) hs;simp only [List.getElem?_drop] at this;rw [this,List.getElem?_append_right (by rw [gG];omega),gG,Nat.sub_self];rfl
   have hl:=uJ v _ h3;rw [fG] at hl
   have hc:=wJ (t:=t) (i+dX v) (dX v) (iJ (dX v)) (O.take p) ((O.drop p).take s.bJ.length) (it O v (p+s.bJ.length)) _ hx rfl (by simp;omega) (by simp;omega) (by have:=(h2 c).1;simp;omega) (h2 c).2.1 (h2 c).2.2.1 (by have:=(h2 c).2.2.2;simp;omega) (fun y hy=>by
    rw [← fG] at hy;exact (hO y (List.mem_of_mem_take hy)).2) ht (by omega) (by omega) (by rw [sX];omega)
   rw [fG,cB hc];simp only [dX,it,if_pos c,qR,List.append_assoc];rw [Nat.add_assoc]
  rw [cV,if_neg c,List.append_nil] at hs;have hk':dX v≤100:=by simpa [dX,c] using hk
  rw [uK ht hn v _ i _ hk' h3 hs];simp only [dX,it,if_neg c];rw [fG,List.append_assoc]
include hO in
theorem qS {steps:List cQ} {t:List aK×List cJ×List Int} (hn:O.length≤100) (ch:Nat):∀ (v:List aN) (p i:Nat) (rest:List cQ),dX v≤100→oS O.length v p→steps.drop i=iW (dX v)++rest →
  aO (iT steps t) (i,ch,iJ (dX v),O.take p++it O v p)=aO (iT steps t) (i+dX v,ch,([]:List Int),O)
 | [],p,i,rest,_,_,_=>by simp [dX,it,iJ]
 | s::v,p,i,rest,hk,hg,hs=>by
  have hg0:=hg;obtain ⟨h1,h2,h3⟩:=hg;by_cases c:0≤s.request
  ·have hk':dX v+1≤100:=by simpa [dX,c] using hk
   have hl:=uJ _ _ hg0;simp only [dX,if_pos c] at hs hl ⊢;rw [iW,List.cons_append] at hs;have hx:steps[i]?=some ⟨(dX v:Int)+1,0,0,[]⟩:=by
    have:=congrArg (fun l=>l[0]?) hs;simp only [List.getElem?_drop,Nat.add_zero] at this;rw [this];rfl
   have hd:steps.drop (i+1)=iW (dX v)++rest:=by
    have:=congrArg (List.drop 1) hs;simp only [List.drop_drop] at this;exact this
   have hun:=AN (t:=t) i ch (iJ (dX v)) (O.take p++it O (s::v) p) _ ((dX v:Int)+1) hx rfl (by omega) (AO _) (fun y hy hm=>by
    simp only [it,if_pos c,List.mem_append,oW,List.mem_map] at hy;rcases hy with hy | ⟨z,hz,rfl⟩ | ⟨z,hz,rfl⟩ | hy
    ·exact (hO y (List.mem_of_mem_take hy)).2
    ·rfl
    ·have:=(hO z (List.mem_of_mem_drop (List.mem_of_mem_take hz))).1;simp only [gn,this] at hm;omega
    have:=wK hO v _ y hy;omega) (by omega) (by rw [sX];omega)
   rw [qR,cB hun];have e:((O.take p++it O (s::v) p).filter (fun y=>!decide (y.item.maker=(dX v:Int)+1))).map (uN ((dX v:Int)+1))=O.take (p+s.bJ.length)++it O v (p+s.bJ.length):=by
    simp only [it,if_pos c];have f1:∀ l:List aK,(∀ y∈l,y.item.maker≤dX v)→l.filter (fun y=>!decide (y.item.maker=(dX v:Int)+1))=l:=fun l h=>by
     rw [List.filter_eq_self];intro y hy;have:=h y hy;simp;omega
    have f2:∀ l:List aK,(∀ y∈l,y.gone≤dX v)→l.map (uN ((dX v:Int)+1))=l:=fun l h=>by
     have:l.map (uN ((dX v:Int)+1))=l.map id:=List.map_congr_left fun y hy=>by
      have:=h y hy;unfold uN;rw [if_neg (by omega)];rfl
     rw [this,List.map_id]
    rw [List.filter_append,List.filter_append,List.filter_append,f1 (O.take p) (fun y hy=>by have:=hO y (List.mem_of_mem_take hy);omega),f1 (it O v _) (fun y hy=>(wK hO v _ y hy).1.2),
     f1 (((O.drop p).take s.bJ.length).map _) (fun y hy=>by
      obtain ⟨z,hz,rfl⟩:=List.mem_map.1 hy
      have:=hO z (List.mem_of_mem_drop (List.mem_of_mem_take hz));simp only [gn];omega)]
    have f3:(oW ((dX v:Int)+1) s.bY).filter (fun y=>!decide (y.item.maker=(dX v:Int)+1))=[]:=by
     rw [List.filter_eq_nil_iff];intro y hy;obtain ⟨z,hz,rfl⟩:=List.mem_map.1 hy;simp
    rw [f3,List.nil_append,List.map_append,List.map_append,f2 (O.take p) (fun y hy=>by have:=hO y (List.mem_of_mem_take hy);omega),f2 (it O v _) (fun y hy=>(wK hO v _ y hy).2.2),fG,List.append_assoc];congr 2;rw [List.map_map];have:∀ l:List aK,(∀ y∈l,y.gone=0)→l.map (uN ((dX v:Int)+1)∘gn ((dX v:Int)+1))=l:=fun l h=>by
     have:l.map (uN ((dX v:Int)+1)∘gn ((dX v:Int)+1))=l.map id:=List.map_congr_left fun y hy=>by
      have:=h y hy;obtain ⟨z,w⟩:=y;simp only [Function.comp,uN,gn,if_true,id];simp only at this;rw [this]
     rw [this,List.map_id]
    exact this _ (fun y hy=>(hO y (List.mem_of_mem_drop (List.mem_of_mem_take hy))).2)
   rw [e,qS hn ch v _ (i+1) rest (by omega) h3 hd];rw [show i+1+dX v=i+(dX v+1) by omega]
  have hk':dX v≤100:=by simpa [dX,c] using hk
  simp only [dX,if_neg c] at hs ⊢;have:=qS (t:=t) hn ch v (p+s.bJ.length) i rest hk' h3 hs;rw [fG,List.append_assoc] at this;simp only [it,if_neg c];exact this
end
end T4
namespace T4
open Go Go.Proofs Pk
def l0:aP:=⟨[],[],[]⟩
def r0:aR:=⟨[⟨[97],4⟩],0,0⟩
def q0:List aB:=[⟨4,0,0,1,[[98]]⟩]
theorem EQ:FD=some true:=by
 have h:=e45 (l:=(⟨([]:List bW),([]:List (List aD)),([]:List aD)⟩:aP)) ⟨by simp,by simp,by simp,by simp,by simp,by simp⟩ [] (r:=(⟨([(⟨[97],4⟩:cN)]:List cN),0,0⟩:aR)) (q:=([(⟨4,0,0,1,([[98]]:List aD)⟩:aB)]:List aB)) ⟨by simp,by simp,by simp,by simp⟩ (by simp);have hd:uE (⟨([]:List bW),([]:List (List aD)),([]:List aD)⟩:aP) [] (⟨([(⟨[97],4⟩:cN)]:List cN),0,0⟩:aR) ([(⟨4,0,0,1,([[98]]:List aD)⟩:aB)]:List aB)=([0],0):=by
  kernel_rfl
 unfold FD;rw [h,Option.bind_some,hd];rfl
end T4
namespace T4
open Go Go.Proofs Pk
def wd (s:aD):cJ:=⟨s,0,0⟩
def og:List aD→Nat→List aK
 | [],_=>[]
 | s::l,i=>⟨⟨s,(i:Int),0⟩,0⟩::og l (i+1)
theorem uL:∀ (l:List aD) (i:Nat),(og l i).length=l.length
 | [],_=>rfl
 | s::l,i=>by simp [og,uL l]
theorem ER:∀ (l:List aD) (i j:Nat) (s:aD),l[j]?=some s→(og l i)[j]?=some ⟨⟨s,((i+j:Nat):Int),0⟩,0⟩
 | [],i,j,s,h=>by simp at h
 | x::l,i,0,s,h=>by simp at h;subst h;rfl
 | x::l,i,j+1,s,h=>by
  rw [List.getElem?_cons_succ] at h;rw [og,List.getElem?_cons_succ,ER l (i+1) j s h];congr 4;omega
theorem ES:∀ (a b:List aD) (i:Nat),og (a++b) i=og a i++og b (i+a.length)
 | [],b,i=>by simp [og]
 | s::a,b,i=>by simp only [List.cons_append,og,ES a b (i+1),List.length_cons];rw [show i+1+a.length=i+(a.length+1) by omega]
theorem ET:∀ (l:List aD) (i:Nat),∀ y∈og l i,y.item.maker=0∧y.gone=0
 | [],_,y,h=>by simp [og] at h
 | s::l,i,y,h=>by
  rw [og,List.mem_cons] at h;rcases h with rfl | h
  ·exact ⟨rfl,rfl⟩
  exact ET l _ y h
theorem zA:∀ (l:List aD) (i:Nat),(og l i).map (·.item.text)=l
 | [],_=>rfl
 | s::l,i=>by simp [og,zA l]
theorem e68 {W:List aD} (hW:∀ s∈W,eU s=true) (hl:W.length≤60):QA ⟨W.map wd,[]⟩=some true:=by
 have h1:aO (sJ ⟨W.map wd,[]⟩) (0,0)=some (.inl 0):=by
  have:=jD (σ:=Int) (W.map wd) (fun a _=>a) (fun a=>(.inl a:Int⊕(Int×Int))) (fun _ a=>a=0) (step:=sJ ⟨W.map wd,[]⟩) (a0:=0) (fun i x a hi hx ha=>?_) (fun i x a hi hx ha=>ha) (fun a ha=>?_) rfl
  ·rw [this];congr 2;generalize W.map wd=l
   induction l with
   | nil=>rfl
   | cons x l ih=>exact ih
  ·subst ha;obtain ⟨s,hs,rfl⟩:=List.mem_map.1 (List.mem_of_getElem? hx);unfold sJ;dsimp only;rw [if_pos (by omega),hx];simp only [Option.bind_some,wd];rw [SH (yW (hW s hs)),EO,EO,hW s hs];simp [In]
  unfold sJ;simp
 have h2:aO (yM ⟨W.map wd,[]⟩) (0,-1)=some (.inl (-1)):=by
  refine bX ?_;unfold yM;simp
 unfold QA;rw [if_pos (by simp;omega),h1];simp only [Option.bind_some];rw [h2];simp
theorem l11 (t:List Int×List aK×List cJ×List Int×Nat) (hl:t.2.1.length≤1000000):∀ (k c j:Nat) (a:List Item),t.2.1.length - j=k→j≤t.2.1.length→c≤j→a.length≤j→aO (kJ t) (c,j,a)=some (a++((t.2.1.drop j).filter (fun y=>decide (y.gone=0))).map (·.item)):=by
 intro k
 induction k with
 | zero =>
  intro c j a hk hj hc ha;obtain rfl:j=t.2.1.length:=by omega
  rw [List.drop_length];refine bX ?_;unfold kJ;rw [if_neg (by simp)];simp
 | succ k ih =>
  intro c j a hk hj hc ha;have hlt:j < t.2.1.length:=by omega
  have hx:t.2.1[j]?=some t.2.1[j]:=List.getElem?_eq_getElem hlt;rw [List.drop_eq_getElem_cons hlt];by_cases e:(t.2.1[j]).gone=0
  ·have:kJ t (c,j,a)=some (.inl (c+1,j+1,a++[(t.2.1[j]).item])):=by
    unfold kJ;simp only [hx,Option.bind_some];rw [if_pos (by omega),if_neg (by simp [e]),bA (by simp;omega)];simp only [Option.bind_some];rw [bA (by omega)];rfl
   rw [cB this,ih (c+1) (j+1) _ (by omega) (by omega) (by omega) (by simp;omega),List.filter_cons_of_pos (by simpa using e),List.map_cons];simp only [List.append_assoc,List.cons_append,List.nil_append]
  have:kJ t (c,j,a)=some (.inl (c,j+1,a)):=by
   unfold kJ;simp only [hx,Option.bind_some];rw [if_pos (by omega),if_pos e];rfl
  rw [cB this,ih c (j+1) _ (by omega) (by omega) (by omega) (by omega),List.filter_cons_of_neg (by simpa using e)]
def t0 (W:List aD):List aK×List cJ×List Int:=(og W 0,W.map wd,[])
theorem e22 {W:List aD} {steps:List cQ} {ch:Nat} {lv:List Int} {l:List aK} (hW:∀ s∈W,eU s=true) (hl:W.length≤60) (hs:steps.length≤80)
  (hrun:aO (iT steps (t0 W)) (0,0,([]:List Int),og W 0)=aO (iT steps (t0 W)) (steps.length,ch,lv,l)) (hll:l.length≤100000) :
  MS ⟨W.map wd,[]⟩ steps=some ((l.filter (fun y=>decide (y.gone=0))).map (·.item),lv,0,0):=by
 have h1:aO (sK ⟨W.map wd,[]⟩) (0,([]:List aK))=some (og W 0):=by
  have key:∀ (k j:Nat),W.length - j=k→j≤W.length→aO (sK ⟨W.map wd,[]⟩) (j,og (W.take j) 0)=some (og W 0):=by
   intro k
   induction k with
   | zero =>
    intro j hk hj;obtain rfl:j=W.length:=by omega
    rw [List.take_length];refine bX ?_;unfold sK;simp
   | succ k ih =>
    intro j hk hj;have hlt:j < W.length:=by omega
    rw [cB (s':=(j+1,og (W.take (j+1)) 0))]
    ·exact ih (j+1) (by omega) (by omega)
    have hx:(W.map wd)[j]?=some (wd W[j]):=by rw [List.getElem?_map,List.getElem?_eq_getElem hlt];rfl
    unfold sK;dsimp only;rw [if_pos (by simpa using hlt),hx];simp only [Option.bind_some];rw [bA (by simp [uL];omega),List.take_succ_eq_append_getElem hlt,ES];simp only [og,List.length_take,Nat.min_eq_left hj,wd,Nat.zero_add]
  simpa [og] using key W.length 0 (by omega) (by omega)
 have h2:iT steps (t0 W) (steps.length,ch,lv,l)=some (.inr (.inl (ch,lv,l))):=by
  unfold iT;rw [if_neg (by simp)]
 unfold MS;rw [e68 hW hl];simp only [Option.bind_some,if_true];rw [if_neg (by omega),h1];simp only [Option.bind_some];rw [show ((og W 0,W.map wd,([]:List Int)):List aK×List cJ×List Int)=t0 W from rfl,hrun,bX h2];simp only [Option.bind_some];rw [l11 (lv,l,W.map wd,([]:List Int),ch) (by dsimp only;omega) _ 0 0 [] rfl (by omega) (by omega) (by simp)];simp
end T4
namespace T4
open Go Go.Proofs Pk
def tot:List aN→Nat
 | []=>0
 | s::v=>s.bJ.length+tot v
theorem zB:∀ (a b:List aN),tot (a++b)=tot a+tot b
 | [],b=>by simp [tot]
 | s::a,b=>by simp only [List.cons_append,tot,zB a b];omega
theorem uM (f:aN→List aD):∀ (v:List aN),(∀ s∈v,(f s).length≤100)→(v.flatMap f).length≤100*v.length
 | [],_=>by simp
 | s::v,h=>by
  have:=uM f v (fun x hx=>h x (List.mem_cons_of_mem _ hx));have:=h s List.mem_cons_self;simp only [List.flatMap_cons,List.length_append,List.length_cons];omega
theorem EU:∀ (v:List aN),(∀ s∈v,s.bJ.length≤100)→tot v≤100*v.length
 | [],_=>by simp [tot]
 | s::v,h=>by
  have:=EU v (fun x hx=>h x (List.mem_cons_of_mem _ hx));have:=h s List.mem_cons_self;simp only [tot,List.length_cons];omega
theorem EV:∀ (v:List aN),dX v≤v.length
 | []=>by simp [dX]
 | s::v=>by have:=EV v;simp only [dX,List.length_cons];split <;> omega
theorem l3 (r:List aN×Int) (hb:∀ s∈r.1,s.bJ.length≤100∧s.bY.length≤100) (hl:r.1.length≤100):∀ (k:Nat) (pre suf:List aN),pre.length=k→r.1=pre++suf →
  aO (DY r) (suf.flatMap (·.bJ),suf.flatMap (·.bY),(tot pre:Int),(pre.length:Int) - 1,cV suf (tot pre))=some (r.1.flatMap (·.bJ),r.1.flatMap (·.bY),0,cV r.1 0):=by
 intro k
 induction k with
 | zero =>
  intro pre suf hk e;obtain rfl:=List.length_eq_zero_iff.1 hk;rw [List.nil_append] at e;refine bX ?_;unfold DY;rw [if_neg (by simp)];rw [e];rfl
 | succ k ih =>
  intro pre suf hk e;rcases List.eq_nil_or_concat pre with rfl | ⟨p,s,rfl⟩
  ·simp at hk
  rw [List.concat_eq_append] at *;have hpl:p.length=k:=by simpa using hk
  have hx:r.1[p.length]?=some s:=by rw [e];simp
  have hs:=hb s (by rw [e];simp);have hlr:=hl;rw [e] at hl;simp only [List.length_append,List.length_singleton] at hl;have b1:=uM (·.bJ) suf (fun x hx=>(hb x (by rw [e];simp [hx])).1);have b2:=uM (·.bY) suf (fun x hx=>(hb x (by rw [e];simp [hx])).2);have b3:=EU p (fun x hx=>(hb x (by rw [e];simp [hx])).1);have b4:=gG suf (tot p+s.bJ.length);have b5:=EV suf;have et:tot (p++[s])=tot p+s.bJ.length:=by rw [zB];simp [tot]
  rw [et];rw [← ih p (s::suf) hpl (by rw [e];simp)];refine cB ?_;unfold DY;dsimp only;rw [if_pos (by simp),show (((p++[s]).length:Int) - 1).toNat=p.length by simp,hx];simp only [Option.bind_some];rw [bA (by omega),bA (by simp only [List.length_nil];omega),bA (by simp only [List.nil_append];omega),bA (by simp only [List.length_nil];omega),bA (by simp only [List.nil_append];omega)];have ea:(((tot p+s.bJ.length:Nat):Int) - (s.bJ.length:Int))=(tot p:Int):=by omega
  rw [ea];by_cases c:0≤s.request
  ·rw [if_pos c,bA (by omega),bA (by simp;omega)];simp only [Option.bind_some];rw [bA (by simp;omega)];simp only [List.nil_append,List.flatMap_cons,cV,if_pos c];congr 5;simp
  rw [if_neg c];simp only [Option.bind_some];rw [bA (by simp;omega)];simp only [List.nil_append,List.flatMap_cons,cV,if_neg c,List.append_nil];congr 5;simp
theorem l4u:∀ (k:Nat) (a:List cQ),a.length+k≤1000→aO xE ((k:Int),a)=some (a++iW k)
 | 0,a,_=>by
  refine bX ?_;unfold xE;simp [iW]
 | k+1,a,h=>by
  have:xE (((k+1:Nat):Int),a)=some (.inl ((k:Int),a++[(⟨(k:Int)+1,0,0,[]⟩:cQ)])):=by
   unfold xE;dsimp only;rw [if_pos (by omega),bA (by omega),bA (by omega)];simp
  rw [cB this,l4u k _ (by simp;omega)];simp [iW]
theorem nY:∀ k,(iW k).length=k
 | 0=>rfl
 | k+1=>by simp [iW,nY k]
def AP (W:List aD):List aN→Nat→Prop
 | [],p=>p=W.length
 | s::v,p=>s.bJ=(W.drop p).take s.bJ.length∧p+s.bJ.length≤W.length∧(s.request < 0→s.bY=s.bJ)∧AP W v (p+s.bJ.length)
theorem zC {W:List aD}:∀ (v:List aN) (p:Nat),AP W v p→v.flatMap (·.bJ)=W.drop p
 | [],p,h=>by simp only [AP] at h;simp [h]
 | s::v,p,h=>by
  obtain ⟨h1,h2,h3,h4⟩:=h;rw [List.flatMap_cons,zC v _ h4]
  conv=>lhs;rw [h1]
  rw [← List.drop_drop];rw [List.length_take,List.length_drop,Nat.min_eq_left (by omega)];exact List.take_append_drop _ _
theorem zD {W:List aD}:∀ (v:List aN) (p:Nat),AP W v p→p+tot v=W.length
 | [],p,h=>by simp only [AP] at h;simp [tot,h]
 | s::v,p,h=>by
  obtain ⟨h1,h2,h3,h4⟩:=h;have:=zD v _ h4;simp only [tot];omega
theorem zE {W:List aD}:∀ (v:List aN) (p:Nat),AP W v p→((it (og W 0) v p).filter (fun y=>decide (y.gone=0))).map (·.item.text)=v.flatMap (·.bY)
 | [],p,h=>by
  simp only [AP] at h;rw [it,h,List.drop_of_length_le (by rw [uL];omega)];rfl
 | s::v,p,h=>by
  obtain ⟨h1,h2,h3,h4⟩:=h;have ih:=zE v _ h4;simp only [it,List.flatMap_cons];by_cases c:0≤s.request
  ·rw [if_pos c,List.filter_append,List.filter_append,List.map_append,List.map_append,ih];have f1:(oW ((dX v:Int)+1) s.bY).filter (fun y=>decide (y.gone=0))=oW ((dX v:Int)+1) s.bY:=by
    rw [List.filter_eq_self];intro y hy;obtain ⟨z,hz,rfl⟩:=List.mem_map.1 hy;rfl
   have f2:((((og W 0).drop p).take s.bJ.length).map (gn ((dX v:Int)+1))).filter (fun y=>decide (y.gone=0))=[]:=by
    rw [List.filter_eq_nil_iff];intro y hy;obtain ⟨z,hz,rfl⟩:=List.mem_map.1 hy;have:(gn ((dX v:Int)+1) z).gone=(dX v:Int)+1:=rfl;rw [this];simp;omega
   rw [f1,f2];have f3:(oW ((dX v:Int)+1) s.bY).map (·.item.text)=s.bY:=by
    unfold oW;rw [List.map_map];exact List.map_id s.bY
   rw [f3];rfl
  rw [if_neg c,List.filter_append,List.map_append,ih,h3 (by omega)];have f1:(((og W 0).drop p).take s.bJ.length).filter (fun y=>decide (y.gone=0))=((og W 0).drop p).take s.bJ.length:=by
   rw [List.filter_eq_self];intro y hy;simp [(ET W 0 y (List.mem_of_mem_drop (List.mem_of_mem_take hy))).2]
  rw [f1,List.map_take,List.map_drop,zA];congr 1;exact h1.symm
end T4
namespace T4
open Go Go.Proofs Pk
section
variable {l:aP} {sw:List bH} {r:aR} {q:List aB}
def texts (r:aR):List aD:=r.words.map (·.text)
theorem jF (r:aR):(texts r).length=r.words.length:=by simp [texts]
theorem qT {i j:Int}:eW r i j=((texts r).drop i.toNat).take (j.toNat - i.toNat):=by rw [pG,texts,List.map_take,List.map_drop]
theorem sY {i j:Int} {v:List aN} (h0:0≤i) (h1:i≤j) (h2:j≤r.words.length) (hg:oS (texts r).length v j.toNat) (hf:AP (texts r) v j.toNat):oS (texts r).length (iI r i j++v) i.toNat∧AP (texts r) (iI r i j++v) i.toNat:=by
 unfold iI;by_cases c:i < j
 ·rw [if_pos c];have ho:=oO (r:=r) h0 h1 h2;have e:i.toNat+(eW r i j).length=j.toNat:=by omega
  have hl:=jF r;refine ⟨⟨by dsimp only;omega,fun h=>absurd h (by show ¬(0:Int) ≤ -1;decide),?_⟩,⟨?_,by dsimp only;omega,fun _=>rfl,?_⟩⟩
  ·show oS _ v (i.toNat+(eW r i j).length);rw [e];exact hg
  ·show eW r i j=((texts r).drop i.toNat).take (eW r i j).length;rw [show (eW r i j).length=j.toNat - i.toNat by omega];exact qT
  show AP _ v (i.toNat+(eW r i j).length);rw [e];exact hf
 rw [if_neg c,List.nil_append,show i=j by omega];exact ⟨hg,hf⟩
theorem sZ (hs:∀ x∈q,x.cut≤4∧x.bK.length≤4):∀ (is:List Int) (p:Int),EM r q is p→0≤p→(∀ i∈is,∀ x,q[i.toNat]?=some x→∀ s∈x.bK,eU s=true) →
  (oS (texts r).length (cO r q is p) p.toNat∧AP (texts r) (cO r q is p) p.toNat)∧dX (cO r q is p)≤is.length
 | [],p,hf,h0,ht=>by
  simp only [EM] at hf;have h:=sY (r:=r) (i:=p) (j:=r.words.length) (v:=[]) h0 hf (Int.le_refl _) (by simp [oS,jF]) (by simp [AP,jF]);rw [List.append_nil] at h;exact ⟨h,by unfold cO iI;split <;> simp [dX]⟩
 | i::is,p,hf,h0,ht=>by
  obtain ⟨x,hx,hi,a,b,c,d,e⟩:=hf;have ih:=sZ hs is (x.aH+x.cut) e (by omega) (fun j hj=>ht j (List.mem_cons_of_mem _ hj));have ho:=oO (r:=r) (i:=x.aH) (j:=x.aH+x.cut) (by omega) (by omega) c;have hl:=jF r;have hq:=hs x (List.mem_of_getElem? hx);have ee:x.aH.toNat+(eW r x.aH (x.aH+x.cut)).length=(x.aH+x.cut).toNat:=by omega
  have eq:cO r q (i::is) p=iI r p x.aH++⟨eW r x.aH (x.aH+x.cut),x.bK,i⟩::cO r q is (x.aH+x.cut):=by rw [cO,hx]
  rw [eq];refine ⟨sY h0 a (by omega) ⟨by dsimp only;omega,fun _=>⟨by dsimp only;omega,hq.2,ht i List.mem_cons_self x hx,by dsimp only;omega⟩,?_⟩ ⟨?_,by dsimp only;omega,fun h=>?_,?_⟩,?_⟩
  ·show oS _ _ (x.aH.toNat+(eW r x.aH (x.aH+x.cut)).length);rw [ee];exact ih.1.1
  ·show eW r x.aH (x.aH+x.cut)=((texts r).drop x.aH.toNat).take (eW r x.aH (x.aH+x.cut)).length;rw [show (eW r x.aH (x.aH+x.cut)).length=(x.aH+x.cut).toNat - x.aH.toNat by omega];exact qT
  ·dsimp only at h;omega
  ·show AP _ _ (x.aH.toNat+(eW r x.aH (x.aH+x.cut)).length);rw [ee];exact ih.1.2
  have hk:∀ v,dX (iI r p x.aH++v)=dX v:=fun v=>by
   unfold iI;split
   ·simp [dX]
   rfl
  rw [hk];have:=ih.2;simp only [dX,List.length_cons];split <;> omega
theorem EW (h:eO l sw r q≠0):eO l sw r q=1∨eO l sw r q=6∨eO l sw r q=3:=by
 have h1:cU l=0∨cU l=1∨cU l=6:=by unfold cU;split <;> (try split) <;> simp
 have h2:eI sw=0∨eI sw=1∨eI sw=3:=by unfold eI;split <;> (try split) <;> simp
 by_cases a:cU l=0
 ·by_cases b:eI sw=0
  ·by_cases c:dA r=true
   ·by_cases d:20 < q.length
    ·right;right;simp [eO,jS,a,b,c,d]
    exact absurd (by simp [eO,jS,a,b,c,d]) h
   left;simp [eO,jS,a,b,c]
  have e:eO l sw r q=eI sw:=by simp [eO,jS,a,b]
  rw [e];omega
 have e:eO l sw r q=cU l:=by simp [eO,jS,a]
 rw [e];omega
theorem xP (h:eO l sw r q=0):dA r=true∧q.length≤20:=by
 unfold eO at h
 split at h
 ·split at h
  ·rename_i c d;split at h
   ·omega
   exact ⟨d,by omega⟩
  omega
 omega
theorem ZR (l:aP) (sw:List bH) (r:aR) (q:List aB) (hq:∀ x∈q,x.cut≤9223372036854775807):m4 l sw r q=some true:=by
 unfold m4;rw [e5,EQ];simp only [Option.bind_some];by_cases ht:AK l sw=true
 rotate_left
 ·rw [if_neg ht];simp
 rw [if_pos ht,e6];simp only [Option.bind_some];by_cases hf:NI r q=true
 rotate_left
 ·rw [if_neg hf];simp
 rw [if_pos hf];simp only [Option.bind_some];by_cases h0:60 < (r.words.length:Int)
 ·rw [if_pos (by simpa using h0)]
 rw [if_neg (by simpa using h0)];have hT:=(yP ht).1;have hS:=(yP ht).2;have hRQ:=MA hf;have h1:aO (DX q) 0=some (if q.all (fun x=>decide (x.cut≤4)&&decide (x.bK.length≤4)) then .inl () else .inr true):=by
  refine iB q _ _ _ (fun i x hi hx=>?_) ?_
  ·unfold DX;rw [if_pos (by omega),hx];simp only [Option.bind_some];by_cases a:4 < x.cut
   ·rw [if_pos a,EQ];simp;omega
   rw [if_neg a];by_cases b:4 < (x.bK.length:Int)
   ·rw [EQ];simp only [b,decide_true,Option.bind_some,if_true];rw [if_neg (by simp;omega)]
   simp only [b,decide_false,Option.bind_some,Bool.false_eq_true,if_false];rw [if_pos (by simp;omega)]
  unfold DX;simp
 rw [h1];by_cases hsm:q.all (fun x=>decide (x.cut≤4)&&decide (x.bK.length≤4))=true
 rotate_left
 ·rw [if_neg hsm];rfl
 rw [if_pos hsm];simp only [Option.bind_some];rw [e13 hT,e21 (by show _≤_;omega),e14 (by have:=hRQ.words1;omega),e15 (by have:=hRQ.req1;omega) (fun x hx=>by have:=(hRQ.req2 x hx).1;show _≤_;omega)];simp only [Option.bind_some];rw [e12 hT hRQ hq];simp only [Option.bind_some];by_cases hw:eO l sw r q=0
 rotate_left
 ·have e:(gY l sw r q).2=eO l sw r q:=by unfold gY;rw [if_neg hw]
  rw [e,if_pos hw];rcases EW hw with h | h | h <;> rw [h] <;> simp
 have eV:gY l sw r q=(cO r q (cZ r.words.length q (cI l sw r q)) 0,0):=by unfold gY;rw [if_pos hw,HW]
 rw [eV];obtain ⟨hR,h7⟩:=xP hw;have hpl:(cZ r.words.length q (cI l sw r q)).length≤20:=by
  rw [placed_perm.length_eq];exact Nat.le_trans kY h7
 have hwl:=hRQ.words1;have hput:∀ i∈cZ r.words.length q (cI l sw r q),∀ x,q[i.toNat]?=some x→∀ s∈x.bK,eU s=true:=fun i hi x hx=>by
  have hk:=(lW (iV (eK.1 hi) hx)).2;unfold fF at hk;simp only [Bool.and_eq_true,decide_eq_true_eq,List.all_eq_true] at hk;exact hk.1.1.2
 have hsg:=sZ (r:=r) (q:=q) (fun x hx=>by
  have:=List.all_eq_true.1 hsm x hx
  simpa using this) _ 0 (wI (l:=l) (sw:=sw)) (Int.le_refl _) hput
 have hst:=AM (l:=l) (sw:=sw) (q:=q) hR (cZ r.words.length q (cI l sw r q)) 0 (fun i hi=>eK.1 hi);have hln:=uG r q (cZ r.words.length q (cI l sw r q)) 0;generalize cO r q (cZ r.words.length q (cI l sw r q)) 0=v at hsg hst hln ⊢;obtain ⟨⟨hG,hF⟩,hN⟩:=hsg;simp only [Int.toNat_zero] at hG hF;simp only [ne_eq,not_true,if_false];have hWt:∀ s∈texts r,eU s=true:=fun s hs=>by
  obtain ⟨w,hw',rfl⟩:=List.mem_map.1 hs;unfold dA at hR;simp only [Bool.and_eq_true,List.all_eq_true] at hR;have:=hR.1.1.1 w hw';unfold lT at this;simp only [Bool.and_eq_true] at this;exact this.1
 have hl2:=jF r;have h2:aO (zV r) (0,([]:List cJ))=some ((texts r).map wd):=by
  have:=fA r.words (fun w=>wd w.text) (fun a=>a) (step:=zV r) (fun i x a hi hx ha=>?_) (fun a=>?_)
  ·rw [this,texts,List.map_map];rfl
  ·unfold zV;rw [if_pos (by simpa using hi)];simp only [hx,Option.bind_some];rw [bA (by simp;omega)];rfl
  unfold zV;simp
 rw [h2];simp only [Option.bind_some]
 have h3:=l3 (v,0) (fun s hs=>by
  have:=hst s hs;refine ⟨by omega,?_⟩
  rcases this.2.2.2 with h | h <;> omega) (by dsimp only;omega) v.length v [] rfl (by simp)
 simp only [List.flatMap_nil] at h3;have htt:=zD v 0 hF;rw [show (tot v:Int)=(r.words.length:Int) by omega,show cV ([]:List aN) (tot v)=[] from rfl] at h3;rw [h3];simp only [Option.bind_some];rw [zC v 0 hF,List.drop_zero];have hsl:=gG v 0;have h8:(cV v 0).length≤20:=by omega
 simp only [not_true,if_false,Option.bind_some];rw [if_neg (by simp;omega),bA (by omega)];have hO:=ET (texts r) 0;have hOl:=uL (texts r) 0;have hG':oS (og (texts r) 0).length v 0:=by rw [hOl];exact hG
 have hil:=uJ v 0 hG';simp only [List.take_zero,List.nil_append] at hil;have r1:=uK hO (steps:=cV v 0) (t:=t0 (texts r)) rfl (by omega) v 0 0 [] (by omega) hG' (by simp);simp only [List.take_zero,List.nil_append,Nat.zero_add] at r1;rw [e22 hWt (by omega) (by omega) (by rw [hsl];exact r1) (by omega)];simp only [Option.bind_some];have h4:aO xE (((cV v 0).length:Int),cV v 0)=some (cV v 0++iW (dX v)):=by
  rw [l4u (cV v 0).length (cV v 0) (by omega),hsl]
 rw [h4];simp only [Option.bind_some];have r2:=uK hO (steps:=cV v 0++iW (dX v)) (t:=t0 (texts r)) rfl (by omega) v 0 0 (iW (dX v)) (by omega) hG' (by simp)
 have r3:=qS hO (steps:=cV v 0++iW (dX v)) (t:=t0 (texts r)) (by omega) (dX v) v 0 (0+dX v) [] (by omega) hG' (by
  have:=List.drop_left (l₁:=cV v 0) (l₂:=iW (dX v));rw [hsl] at this
  rw [Nat.zero_add,List.append_nil,this])
 rw [r3] at r2;simp only [Nat.zero_add] at r2;rw [e22 hWt (by omega) (by simp [nY];omega) (by rw [List.length_append,nY,hsl];exact r2) (by omega)];simp only [Option.bind_some];have f1:(og (texts r) 0).filter (fun y=>decide (y.gone=0))=og (texts r) 0:=by
  rw [List.filter_eq_self];intro y hy;simp [(hO y hy).2]
 rw [f1];have hnew:=zE v 0 hF;generalize hA:((it (og (texts r) 0) v 0).filter (fun y=>decide (y.gone=0))).map (·.item)=A;have hnew2:A.map (·.text)=v.flatMap (·.bY):=by rw [← hA,List.map_map];exact hnew
 have hAl:A.length=(v.flatMap (·.bY)).length:=by rw [← hnew2];simp
 simp only [not_true,if_false,List.length_nil];have c1:¬ ¬((([]:List Int).length:Int)=0):=by simp
 rw [if_neg (by simp),if_neg (by omega)];simp only [Option.bind_some];rw [if_neg (by simp [hOl])];have h5:aO (zW (A,iJ (dX v),0,0) (texts r,v.flatMap (·.bY),0,cV v 0)) 0=some (.inl ()):=by
  have:=iB A (fun _=>true) (e:=(.inl ():Unit⊕Bool)) (out:=.inl ()) (step:=zW (A,iJ (dX v),0,0) (texts r,v.flatMap (·.bY),0,cV v 0)) (fun i x hi hx=>?_) ?_
  ·rw [this];simp
  ·have hy:(v.flatMap (·.bY))[i]?=some x.text:=by rw [← hnew2,List.getElem?_map,hx];rfl
   unfold zW;dsimp only;rw [if_pos (by omega),hx];simp only [Option.bind_some];rw [hy];simp
  unfold zW;simp
 rw [h5];simp only [Option.bind_some];have h6:aO (zX ((og (texts r) 0).map (·.item),([]:List Int),0,0) (texts r,v.flatMap (·.bY),0,cV v 0)) 0=some (.inl ()):=by
  have:=iB (texts r) (fun _=>true) (e:=(.inl ():Unit⊕Bool)) (out:=.inl ()) (step:=zX ((og (texts r) 0).map (·.item),([]:List Int),0,0) (texts r,v.flatMap (·.bY),0,cV v 0)) (fun i x hi hx=>?_) ?_
  ·rw [this];simp
  ·have hy:((og (texts r) 0).map (·.item))[i]?=some ⟨x,(i:Int),0⟩:=by rw [List.getElem?_map,ER _ _ _ _ hx];simp
   unfold zX;dsimp only;rw [if_pos (by simp [hOl];omega),hy];simp only [Option.bind_some];rw [hx];simp
  unfold zX;simp [hOl]
 rw [h6];simp only [Option.bind_some]
end
end T4
