/-
  The types and models of the functions of layer 4, printed by a program of ours.
-/
import Derived.Test.YtelimceikglofaaGreatDoorKitSix
import Derived.Test.YtelimceikglofaaGreatDoorProg
set_option linter.all false
namespace Go.Proofs
open Go.Shelf Go.RowKit
def Tryz.laysC172_ren : Go.Shelf.Ren := ⟨fun | 172 => 107 | 244 => 138 | 245 => 139 | 247 => 154 | 279 => 155 | 280 => 156 | 281 => 157 | 282 => 158 | 287 => 164 | 316 => 165 | 171 => 108 | 205 => 166 | 321 => 172 | 322 => 173 | 243 => 140 | 246 => 159 | 283 => 167 | 284 => 168 | 285 => 169 | 286 => 170 | 129 => 131 | 317 => 174 | 318 => 175 | 319 => 176 | 320 => 177 | 337 => 178 | 338 => 179 | n => n, fun | 9 => 9 | 3 => 3 | 75 => 174 | 76 => 175 | 4 => 4 | 5 => 5 | 167 => 212 | 37 => 170 | 0 => 0 | 85 => 213 | 2 => 2 | 168 => 215 | 53 => 195 | 175 => 224 | 46 => 168 | 210 => 228 | 127 => 235 | 145 => 238 | 143 => 236 | 21 => 21 | 171 => 230 | 173 => 232 | 212 => 241 | 51 => 193 | 20 => 20 | 213 => 242 | 232 => 243 | 233 => 244 | 80 => 245 | n => n, fun | 15 => 0 | 16 => 1 | 17 => 2 | 18 => 3 | 19 => 4 | n => n⟩
theorem Tryz.laysC172 : Go.Proofs.LaysC.n172 Tryz.prog Tryz.laysC172_ren := {
 mixed := by kernel_rfl
 f129 := Tryz.func131.trans (congrArg some (by kernel_rfl))
 f171 := Tryz.func108.trans (congrArg some (by kernel_rfl))
 f172 := Tryz.func107.trans (congrArg some (by kernel_rfl))
 f205 := Tryz.func166.trans (congrArg some (by kernel_rfl))
 f243 := Tryz.func140.trans (congrArg some (by kernel_rfl))
 f244 := Tryz.func138.trans (congrArg some (by kernel_rfl))
 f245 := Tryz.func139.trans (congrArg some (by kernel_rfl))
 f246 := Tryz.func159.trans (congrArg some (by kernel_rfl))
 f247 := Tryz.func154.trans (congrArg some (by kernel_rfl))
 f279 := Tryz.func155.trans (congrArg some (by kernel_rfl))
 f280 := Tryz.func156.trans (congrArg some (by kernel_rfl))
 f281 := Tryz.func157.trans (congrArg some (by kernel_rfl))
 f282 := Tryz.func158.trans (congrArg some (by kernel_rfl))
 f283 := Tryz.func167.trans (congrArg some (by kernel_rfl))
 f284 := Tryz.func168.trans (congrArg some (by kernel_rfl))
 f285 := Tryz.func169.trans (congrArg some (by kernel_rfl))
 f286 := Tryz.func170.trans (congrArg some (by kernel_rfl))
 f287 := Tryz.func164.trans (congrArg some (by kernel_rfl))
 f316 := Tryz.func165.trans (congrArg some (by kernel_rfl))
 f317 := Tryz.func174.trans (congrArg some (by kernel_rfl))
 f318 := Tryz.func175.trans (congrArg some (by kernel_rfl))
 f319 := Tryz.func176.trans (congrArg some (by kernel_rfl))
 f320 := Tryz.func177.trans (congrArg some (by kernel_rfl))
 f321 := Tryz.func172.trans (congrArg some (by kernel_rfl))
 f322 := Tryz.func173.trans (congrArg some (by kernel_rfl))
 f337 := Tryz.func178.trans (congrArg some (by kernel_rfl))
 f338 := Tryz.func179.trans (congrArg some (by kernel_rfl))
 t0 := Tryz.underlying0
 a0 := Tryz.isAgg0
 z0 := Tryz.sizeOf0
 v0 := Tryz.zeroValue0
 t2 := Tryz.underlying2
 a2 := Tryz.isAgg2
 z2 := Tryz.sizeOf2
 v2 := Tryz.zeroValue2
 t3 := Tryz.underlying3
 a3 := Tryz.isAgg3
 z3 := Tryz.sizeOf3
 v3 := Tryz.zeroValue3
 t4 := Tryz.underlying4
 a4 := Tryz.isAgg4
 z4 := Tryz.sizeOf4
 v4 := Tryz.zeroValue4
 t5 := Tryz.underlying5
 a5 := Tryz.isAgg5
 z5 := Tryz.sizeOf5
 v5 := Tryz.zeroValue5
 t9 := Tryz.underlying9
 a9 := Tryz.isAgg9
 z9 := Tryz.sizeOf9
 v9 := Tryz.zeroValue9
 t20 := Tryz.underlying20
 a20 := Tryz.isAgg20
 z20 := Tryz.sizeOf20
 v20 := Tryz.zeroValue20
 t21 := Tryz.underlying21
 a21 := Tryz.isAgg21
 z21 := Tryz.sizeOf21
 v21 := Tryz.zeroValue21
 t37 := Tryz.underlying170
 a37 := Tryz.isAgg170
 z37 := Tryz.sizeOf170
 v37 := Tryz.zeroValue170
 t46 := Tryz.underlying168
 a46 := Tryz.isAgg168
 z46 := Tryz.sizeOf168
 v46 := Tryz.zeroValue168
 t51 := Tryz.underlying193
 a51 := Tryz.isAgg193
 z51 := Tryz.sizeOf193
 v51 := Tryz.zeroValue193
 t53 := Tryz.underlying195
 a53 := Tryz.isAgg195
 z53 := Tryz.sizeOf195
 v53 := Tryz.zeroValue195
 t75 := Tryz.underlying174
 a75 := Tryz.isAgg174
 z75 := Tryz.sizeOf174
 v75 := Tryz.zeroValue174
 t76 := Tryz.underlying175
 a76 := Tryz.isAgg175
 z76 := Tryz.sizeOf175
 v76 := Tryz.zeroValue175
 t85 := Tryz.underlying213
 a85 := Tryz.isAgg213
 z85 := Tryz.sizeOf213
 v85 := Tryz.zeroValue213
 t127 := Tryz.underlying235
 a127 := Tryz.isAgg235
 z127 := Tryz.sizeOf235
 v127 := Tryz.zeroValue235
 t143 := Tryz.underlying236
 a143 := Tryz.isAgg236
 z143 := Tryz.sizeOf236
 v143 := Tryz.zeroValue236
 t145 := Tryz.underlying238
 a145 := Tryz.isAgg238
 z145 := Tryz.sizeOf238
 v145 := Tryz.zeroValue238
 t167 := Tryz.underlying212
 a167 := Tryz.isAgg212
 z167 := Tryz.sizeOf212
 v167 := Tryz.zeroValue212
 t168 := Tryz.underlying215
 a168 := Tryz.isAgg215
 z168 := Tryz.sizeOf215
 v168 := Tryz.zeroValue215
 t171 := Tryz.underlying230
 a171 := Tryz.isAgg230
 z171 := Tryz.sizeOf230
 v171 := Tryz.zeroValue230
 t173 := Tryz.underlying232
 a173 := Tryz.isAgg232
 z173 := Tryz.sizeOf232
 v173 := Tryz.zeroValue232
 t175 := Tryz.underlying224
 a175 := Tryz.isAgg224
 z175 := Tryz.sizeOf224
 v175 := Tryz.zeroValue224
 t210 := Tryz.underlying228
 a210 := Tryz.isAgg228
 z210 := Tryz.sizeOf228
 v210 := Tryz.zeroValue228
 t212 := Tryz.underlying241
 a212 := Tryz.isAgg241
 z212 := Tryz.sizeOf241
 v212 := Tryz.zeroValue241
 t213 := Tryz.underlying242
 a213 := Tryz.isAgg242
 z213 := Tryz.sizeOf242
 t232 := Tryz.underlying243
 a232 := Tryz.isAgg243
 z232 := Tryz.sizeOf243
 v232 := Tryz.zeroValue243
 t233 := Tryz.underlying244
 a233 := Tryz.isAgg244
 z233 := Tryz.sizeOf244
 v233 := Tryz.zeroValue244
 g15 := by kernel_rfl
 g16 := by kernel_rfl
 g17 := by kernel_rfl
 g18 := by kernel_rfl
 g19 := by kernel_rfl
 t80 := Tryz.underlying245
 a80 := Tryz.isAgg245
 z80 := Tryz.sizeOf245
 v80 := Tryz.zeroValue245
 i0 := by kernel_rfl
 i2 := by kernel_rfl
 i3 := by kernel_rfl
 i4 := by kernel_rfl
 i5 := by kernel_rfl
 i9 := by kernel_rfl
 i20 := by kernel_rfl
 i21 := by kernel_rfl
 i37 := by kernel_rfl
 i46 := by kernel_rfl
 i51 := by kernel_rfl
 i53 := by kernel_rfl
 i75 := by kernel_rfl
 i76 := by kernel_rfl
 i80 := by kernel_rfl
 i85 := by kernel_rfl
 i127 := by kernel_rfl
 i143 := by kernel_rfl
 i145 := by kernel_rfl
 i167 := by kernel_rfl
 i168 := by kernel_rfl
 i171 := by kernel_rfl
 i173 := by kernel_rfl
 i175 := by kernel_rfl
 i210 := by kernel_rfl
 i212 := by kernel_rfl
 i232 := by kernel_rfl
 i233 := by kernel_rfl
 m15 := by kernel_rfl
 m16 := by kernel_rfl
 m17 := by kernel_rfl
 m18 := by kernel_rfl
 m19 := by kernel_rfl
 c0 := by kernel_rfl
 c2 := by kernel_rfl
 c3 := by kernel_rfl
 c4 := by kernel_rfl
 c5 := by kernel_rfl
 c9 := by kernel_rfl
 c20 := by kernel_rfl
 c21 := by kernel_rfl
 c37 := by kernel_rfl
 c46 := by kernel_rfl
 c51 := by kernel_rfl
 c53 := by kernel_rfl
 c75 := by kernel_rfl
 c76 := by kernel_rfl
 c80 := by kernel_rfl
 c85 := by kernel_rfl
 c127 := by kernel_rfl
 c143 := by kernel_rfl
 c145 := by kernel_rfl
 c167 := by kernel_rfl
 c168 := by kernel_rfl
 c171 := by kernel_rfl
 c173 := by kernel_rfl
 c175 := by kernel_rfl
 c210 := by kernel_rfl
 c212 := by kernel_rfl
 c213 := by kernel_rfl
 c232 := by kernel_rfl
 c233 := by kernel_rfl }
def Tryz.laysM171_ren : Go.Shelf.Ren := ⟨fun | 171 => 108 | 243 => 140 | 246 => 159 | 283 => 167 | 284 => 168 | 285 => 169 | 286 => 170 | 129 => 131 | 317 => 174 | 318 => 175 | 319 => 176 | 320 => 177 | 337 => 178 | 338 => 179 | n => n, fun | 3 => 3 | 9 => 9 | 2 => 2 | 4 => 4 | 171 => 230 | 0 => 0 | 53 => 195 | 37 => 170 | 5 => 5 | 173 => 232 | 212 => 241 | 51 => 193 | 20 => 20 | 213 => 242 | 46 => 168 | 232 => 243 | 233 => 244 | n => n, fun | 17 => 2 | 18 => 3 | 19 => 4 | n => n⟩
theorem Tryz.laysM171 : Go.Proofs.LaysM.n171 Tryz.prog Tryz.laysM171_ren := {
 mixed := by kernel_rfl
 f129 := Tryz.func131.trans (congrArg some (by kernel_rfl))
 f171 := Tryz.func108.trans (congrArg some (by kernel_rfl))
 f243 := Tryz.func140.trans (congrArg some (by kernel_rfl))
 f246 := Tryz.func159.trans (congrArg some (by kernel_rfl))
 f283 := Tryz.func167.trans (congrArg some (by kernel_rfl))
 f284 := Tryz.func168.trans (congrArg some (by kernel_rfl))
 f285 := Tryz.func169.trans (congrArg some (by kernel_rfl))
 f286 := Tryz.func170.trans (congrArg some (by kernel_rfl))
 f317 := Tryz.func174.trans (congrArg some (by kernel_rfl))
 f318 := Tryz.func175.trans (congrArg some (by kernel_rfl))
 f319 := Tryz.func176.trans (congrArg some (by kernel_rfl))
 f320 := Tryz.func177.trans (congrArg some (by kernel_rfl))
 f337 := Tryz.func178.trans (congrArg some (by kernel_rfl))
 f338 := Tryz.func179.trans (congrArg some (by kernel_rfl))
 t0 := Tryz.underlying0
 a0 := Tryz.isAgg0
 z0 := Tryz.sizeOf0
 v0 := Tryz.zeroValue0
 t2 := Tryz.underlying2
 a2 := Tryz.isAgg2
 z2 := Tryz.sizeOf2
 v2 := Tryz.zeroValue2
 t3 := Tryz.underlying3
 a3 := Tryz.isAgg3
 z3 := Tryz.sizeOf3
 v3 := Tryz.zeroValue3
 t4 := Tryz.underlying4
 a4 := Tryz.isAgg4
 z4 := Tryz.sizeOf4
 v4 := Tryz.zeroValue4
 t5 := Tryz.underlying5
 a5 := Tryz.isAgg5
 z5 := Tryz.sizeOf5
 v5 := Tryz.zeroValue5
 t9 := Tryz.underlying9
 a9 := Tryz.isAgg9
 z9 := Tryz.sizeOf9
 v9 := Tryz.zeroValue9
 t20 := Tryz.underlying20
 a20 := Tryz.isAgg20
 z20 := Tryz.sizeOf20
 v20 := Tryz.zeroValue20
 t37 := Tryz.underlying170
 a37 := Tryz.isAgg170
 z37 := Tryz.sizeOf170
 v37 := Tryz.zeroValue170
 t46 := Tryz.underlying168
 a46 := Tryz.isAgg168
 z46 := Tryz.sizeOf168
 v46 := Tryz.zeroValue168
 t51 := Tryz.underlying193
 a51 := Tryz.isAgg193
 z51 := Tryz.sizeOf193
 v51 := Tryz.zeroValue193
 t53 := Tryz.underlying195
 a53 := Tryz.isAgg195
 z53 := Tryz.sizeOf195
 v53 := Tryz.zeroValue195
 t171 := Tryz.underlying230
 a171 := Tryz.isAgg230
 z171 := Tryz.sizeOf230
 v171 := Tryz.zeroValue230
 t173 := Tryz.underlying232
 a173 := Tryz.isAgg232
 z173 := Tryz.sizeOf232
 v173 := Tryz.zeroValue232
 t212 := Tryz.underlying241
 a212 := Tryz.isAgg241
 z212 := Tryz.sizeOf241
 v212 := Tryz.zeroValue241
 t213 := Tryz.underlying242
 a213 := Tryz.isAgg242
 z213 := Tryz.sizeOf242
 t232 := Tryz.underlying243
 a232 := Tryz.isAgg243
 z232 := Tryz.sizeOf243
 v232 := Tryz.zeroValue243
 t233 := Tryz.underlying244
 a233 := Tryz.isAgg244
 z233 := Tryz.sizeOf244
 v233 := Tryz.zeroValue244
 g17 := by kernel_rfl
 g18 := by kernel_rfl
 g19 := by kernel_rfl
 i0 := by kernel_rfl
 i2 := by kernel_rfl
 i3 := by kernel_rfl
 i4 := by kernel_rfl
 i5 := by kernel_rfl
 i9 := by kernel_rfl
 i20 := by kernel_rfl
 i37 := by kernel_rfl
 i46 := by kernel_rfl
 i51 := by kernel_rfl
 i53 := by kernel_rfl
 i171 := by kernel_rfl
 i173 := by kernel_rfl
 i212 := by kernel_rfl
 i232 := by kernel_rfl
 i233 := by kernel_rfl
 m17 := by kernel_rfl
 m18 := by kernel_rfl
 m19 := by kernel_rfl }
end Go.Proofs
namespace T4
open Go Go.Proofs Pk Go.RowKit
abbrev Gv (M : Prop) : Hp → Prop := Gl M 0 1 2
noncomputable def m107 (s : Bytes) : Option (Int × Bool) := atoiM s
noncomputable def m108 (n : Int) : Option Bytes := itoaM n
theorem w107 {M : Prop} {W : World} {H : Hp} (hH : H.le (hp W)) (hg : Gv M H) (s : Bytes) {r : Int × Bool} (hr : m107 s = some r) : Calls Tryz.prog 107 [.string (bs s)].toArray W (RetK M H W (fun v K => ∃ (er1 : Value), v = .tuple [.int .i64 r.1, er1].toArray ∧ Er er1 r.2)) := by
 unfold m107 atoiM at hr
 obtain ⟨hl, hr⟩ := chk_some hr
 obtain rfl := Option.some.inj hr
 have hd : (bs s).data.toList = s := by simp [bs]
 have hz : (bs s).size = s.length := bs_size s
 obtain ⟨e0, h0, i0⟩ := hg.syn
 obtain ⟨e1, h1, i1⟩ := hg.rng
 cases h : Lib.atoiAll s with
 | ok v =>
  refine (Any.strconv_Atoi_ok Tryz.laysC172 (bs s) (by omega) v (by rw [hd]; exact h) W).mono ?_
  rintro e w' ⟨rfl, hw⟩
  refine ⟨⟨_, by simp [atoiR, h], .inl ⟨by simp [atoiR, h], rfl⟩⟩, ?_⟩
  rcases hw with rfl | ⟨t, rfl⟩
  ·exact Ext.refl _ _
  ·exact Ext.of_below hg.nq (Lib.bytesWorld_below _ _ _)
 | range =>
  refine (Any.strconv_Atoi_range Tryz.laysC172 (bs s) (by omega) (by rw [hd]; exact h) e1 W (cell_of hH h1) i1).mono ?_
  rintro e w' ⟨N, rfl, _, _, hb⟩
  have hr1 : atoiR s = (Lib.atoiSat s, true) := by simp [atoiR, h]
  rw [hr1, hd]
  exact ⟨⟨_, rfl, .inr ⟨rfl, _, _, rfl⟩⟩, Ext.of_below hg.nq hb⟩
 | _ =>
  refine (Any.strconv_Atoi_syntax Tryz.laysC172 (bs s) (by omega) (by rw [hd]; exact h) e0 W (cell_of hH h0) i0).mono ?_
  rintro e w' ⟨N, rfl, _, _, hb⟩
  have hr1 : atoiR s = (0, true) := by simp [atoiR, h]
  rw [hr1]
  exact ⟨⟨_, rfl, .inr ⟨rfl, _, _, rfl⟩⟩, Ext.of_below hg.nq hb⟩
theorem w108 {M : Prop} {W : World} {H : Hp} (hH : H.le (hp W)) (hg : Gv M H) (n : Int) {r : Bytes} (hr : m108 n = some r) : Calls Tryz.prog 108 [.int .i64 n].toArray W (RetS M W (.string (bs r))) := by
 unfold m108 itoaM at hr
 obtain ⟨hl, hr⟩ := chk_some hr
 obtain rfl := Option.some.inj hr
 refine (Any.strconv_Itoa Tryz.laysM171 n hl.1 hl.2 W (tabIs_of (by kernel_rfl) hH hg.tab)).mono ?_
 rintro e w' ⟨rfl, k, os, rfl⟩
 exact ⟨rfl, rfl, rfl, rfl, (by show W.heap.size ≤ (W.heap ++ os).size; rw [Array.size_append]; omega), fun b hb => Array.getElem?_append_left hb, fun _ => Nat.le_add_right _ _⟩
end T4
namespace Go.Proofs
open Go.Shelf Go.RowKit
end Go.Proofs
namespace Go.Proofs
open Go Pk
end Go.Proofs
namespace T4
open Go Go.Proofs Pk
structure Number where
 text : Bytes
 value : Int
 deriving DecidableEq, Inhabited
def encNumber (x : Number) : List Value := [.string (bs x.text), .int .i64 x.value]
structure Lexicon where
 numbers : List Number
 names : List (List Bytes)
 nots : List Bytes
 deriving DecidableEq, Inhabited
def RLexicon : Hp → List Value → Lexicon → Prop := fun H cs x => ∃ (ad0 : Option Addr) (cap0 : Nat) (ad1 : Option Addr) (cap1 : Nat) (ad2 : Option Addr) (cap2 : Nat), cs = [.slice ad0 x.numbers.length cap0, .slice ad1 x.names.length cap1, .slice ad2 x.nots.length cap2] ∧ Sl (Flat encNumber) 2 H ad0 cap0 x.numbers ∧ Sl (RSl (Flat encS) 1) 1 H ad1 cap1 x.names ∧ Sl (Flat encS) 1 H ad2 cap2 x.nots
theorem RLexicon.mono : Mono RLexicon := fun _ _ _ _ hk ⟨a0, c0, a1, c1, a2, c2, h, f0, f1, f2⟩ => ⟨a0, c0, a1, c1, a2, c2, h, f0.mono (Flat.mono _) hk, f1.mono (RSl.mono (Flat.mono _)) hk, f2.mono (Flat.mono _) hk⟩
structure Swap where
 kind : Int
 old_ : Int
 new_ : Int
 deriving DecidableEq, Inhabited
def encSwap (x : Swap) : List Value := [.int .u8 x.kind, .int .i64 x.old_, .int .i64 x.new_]
structure Mark where
 kind : Int
 value : Int
 deriving DecidableEq, Inhabited
def encMark (x : Mark) : List Value := [.int .u8 x.kind, .int .i64 x.value]
structure rules where
 meanings : List (Bytes × Mark)
 swaps : List Swap
 deriving DecidableEq, Inhabited
def Rrules : Hp → List Value → rules → Prop := fun H cs x => ∃ (mp0 : Value) (ad1 : Option Addr) (cap1 : Nat), cs = [mp0, .slice ad1 x.swaps.length cap1] ∧ Mp keS (fun x => Value.agg (encMark x).toArray) H mp0 x.meanings ∧ Sl (Flat encSwap) 3 H ad1 cap1 x.swaps
theorem Rrules.mono : Mono Rrules := fun _ _ _ _ hk ⟨m0, a1, c1, h, f0, f1⟩ => ⟨m0, a1, c1, h, f0.mono hk, f1.mono (Flat.mono _) hk⟩
structure Said where
 text : Bytes
 speaker : Int
 deriving DecidableEq, Inhabited
def encSaid (x : Said) : List Value := [.string (bs x.text), .int .i64 x.speaker]
structure Report where
 words : List Said
 out : Int
 within : Int
 deriving DecidableEq, Inhabited
def RReport : Hp → List Value → Report → Prop := fun H cs x => ∃ (ad0 : Option Addr) (cap0 : Nat), cs = [.slice ad0 x.words.length cap0, .int .i64 x.out, .int .i64 x.within] ∧ Sl (Flat encSaid) 2 H ad0 cap0 x.words
theorem RReport.mono : Mono RReport := fun _ _ _ _ hk ⟨a0, c0, h, f0⟩ => ⟨a0, c0, h, f0.mono (Flat.mono _) hk⟩
structure Request where
 by_ : Int
 minute : Int
 from_ : Int
 cut : Int
 put_ : List Bytes
 deriving DecidableEq, Inhabited
def RRequest : Hp → List Value → Request → Prop := fun H cs x => ∃ (ad0 : Option Addr) (cap0 : Nat), cs = [.int .i64 x.by_, .int .i64 x.minute, .int .i64 x.from_, .int .i64 x.cut, .slice ad0 x.put_.length cap0] ∧ Sl (Flat encS) 1 H ad0 cap0 x.put_
theorem RRequest.one : OneR RRequest := fun _ _ _ ⟨_, _, h, _⟩ => by subst h; rfl
theorem RRequest.mono : Mono RRequest := fun _ _ _ _ hk ⟨a0, c0, h, f0⟩ => ⟨a0, c0, h, f0.mono (Flat.mono _) hk⟩
structure decided where
 report : Report
 rules : rules
 accepted : List Request
 which : List Int
 errors : List Int
 deriving DecidableEq, Inhabited
def Rdecided : Hp → List Value → decided → Prop := fun H cs x => ∃ (ad0 : Option Addr) (cap0 : Nat) (mp1 : Value) (ad2 : Option Addr) (cap2 : Nat) (ad3 : Option Addr) (cap3 : Nat) (ad4 : Option Addr) (cap4 : Nat) (ad5 : Option Addr) (cap5 : Nat), cs = [.slice ad0 x.report.words.length cap0, .int .i64 x.report.out, .int .i64 x.report.within, mp1, .slice ad2 x.rules.swaps.length cap2, .slice ad3 x.accepted.length cap3, .slice ad4 x.which.length cap4, .slice ad5 x.errors.length cap5] ∧ Sl (Flat encSaid) 2 H ad0 cap0 x.report.words ∧ Mp keS (fun x => Value.agg (encMark x).toArray) H mp1 x.rules.meanings ∧ Sl (Flat encSwap) 3 H ad2 cap2 x.rules.swaps ∧ Sl (RRequest) 5 H ad3 cap3 x.accepted ∧ Sl (Flat (encI .i64)) 1 H ad4 cap4 x.which ∧ Sl (Flat (encI .i64)) 1 H ad5 cap5 x.errors
theorem mixed : Tryz.prog.follows .mixedOrders = true := by kernel_rfl
theorem B36 : BuildAt Tryz.prog 36 [.slice none 0 0, .slice none 0 0, .slice none 0 0] #[(0, 1), (1, 1), (2, 1)] := ⟨⟨.agg [.slice none 0 0, .slice none 0 0, .slice none 0 0].toArray, rfl, Tryz.zeroValue36⟩, ⟨_, Tryz.underlying36, fun _ => by kernel_rfl⟩⟩
theorem B56 : BuildAt Tryz.prog 56 [.slice none 0 0, .int .i64 0, .int .i64 0] #[(0, 1), (1, 1), (2, 1)] := ⟨⟨.agg [.slice none 0 0, .int .i64 0, .int .i64 0].toArray, rfl, Tryz.zeroValue56⟩, ⟨_, Tryz.underlying56, fun _ => by kernel_rfl⟩⟩
theorem B58 : BuildAt Tryz.prog 58 [.string (bs []), .int .i64 0] #[(0, 1), (1, 1)] := ⟨⟨.agg [.string (bs []), .int .i64 0].toArray, rfl, Tryz.zeroValue58⟩, ⟨_, Tryz.underlying58, fun _ => by kernel_rfl⟩⟩
theorem B63 : BuildAt Tryz.prog 63 [.int .i64 0, .int .i64 0, .int .i64 0, .int .i64 0, .slice none 0 0] #[(0, 1), (1, 1), (2, 1), (3, 1), (4, 1)] := ⟨⟨.agg [.int .i64 0, .int .i64 0, .int .i64 0, .int .i64 0, .slice none 0 0].toArray, rfl, Tryz.zeroValue63⟩, ⟨_, Tryz.underlying63, fun _ => by kernel_rfl⟩⟩
theorem B79 : BuildAt Tryz.prog 79 [.int .u8 0, .int .i64 0] #[(0, 1), (1, 1)] := ⟨⟨.agg [.int .u8 0, .int .i64 0].toArray, rfl, Tryz.zeroValue79⟩, ⟨_, Tryz.underlying79, fun _ => by kernel_rfl⟩⟩
theorem B109 : BuildAt Tryz.prog 109 [.int .u8 0, .int .i64 0, .int .i64 0] #[(0, 1), (1, 1), (2, 1)] := ⟨⟨.agg [.int .u8 0, .int .i64 0, .int .i64 0].toArray, rfl, Tryz.zeroValue109⟩, ⟨_, Tryz.underlying109, fun _ => by kernel_rfl⟩⟩
theorem B113 : BuildAt Tryz.prog 113 [.int .u8 0, .int .i64 0] #[(0, 1), (1, 1)] := ⟨⟨.agg [.int .u8 0, .int .i64 0].toArray, rfl, Tryz.zeroValue113⟩, ⟨_, Tryz.underlying113, fun _ => by kernel_rfl⟩⟩
theorem B117 : BuildAt Tryz.prog 117 [.map none, .slice none 0 0] #[(0, 1), (1, 1)] := ⟨⟨.agg [.map none, .slice none 0 0].toArray, rfl, Tryz.zeroValue117⟩, ⟨_, Tryz.underlying117, fun _ => by kernel_rfl⟩⟩
theorem B123 : BuildAt Tryz.prog 123 [.string (bs []), .int .i64 0] #[(0, 1), (1, 1)] := ⟨⟨.agg [.string (bs []), .int .i64 0].toArray, rfl, Tryz.zeroValue123⟩, ⟨_, Tryz.underlying123, fun _ => by kernel_rfl⟩⟩
theorem B133 : BuildAt Tryz.prog 133 [.slice none 0 0, .int .i64 0, .int .i64 0, .map none, .slice none 0 0, .slice none 0 0, .slice none 0 0, .slice none 0 0] #[(0, 3), (3, 2), (5, 1), (6, 1), (7, 1)] := ⟨⟨.agg [.slice none 0 0, .int .i64 0, .int .i64 0, .map none, .slice none 0 0, .slice none 0 0, .slice none 0 0, .slice none 0 0].toArray, rfl, Tryz.zeroValue133⟩, ⟨_, Tryz.underlying133, fun _ => by kernel_rfl⟩⟩
theorem B182 : BuildAt Tryz.prog 182 [.nilFunc, .int .i64 0] #[(0, 1), (1, 1)] := ⟨⟨.agg [.nilFunc, .int .i64 0].toArray, rfl, Tryz.zeroValue182⟩, ⟨_, Tryz.underlying182, fun _ => by kernel_rfl⟩⟩
theorem E23 : ElemAt Tryz.prog 23 24 [.slice none 0 0] 1 24 := ⟨Tryz.underlying23, ⟨_, .slice none 0 0, info_of Tryz.type24, rfl, rfl, rfl, rfl⟩, rfl, by decide⟩
theorem E24 : ElemAt Tryz.prog 24 9 [.string (bs [])] 1 16 := ⟨Tryz.underlying24, ⟨_, .string (bs []), info_of Tryz.type9, rfl, rfl, rfl, rfl⟩, rfl, by decide⟩
theorem E34 : ElemAt Tryz.prog 34 123 [.string (bs []), .int .i64 0] 2 24 := ⟨Tryz.underlying34, ⟨_, .agg [.string (bs []), .int .i64 0].toArray, info_of Tryz.type123, rfl, rfl, rfl, rfl⟩, rfl, by decide⟩
theorem E38 : ElemAt Tryz.prog 38 109 [.int .u8 0, .int .i64 0, .int .i64 0] 3 24 := ⟨Tryz.underlying38, ⟨_, .agg [.int .u8 0, .int .i64 0, .int .i64 0].toArray, info_of Tryz.type109, rfl, rfl, rfl, rfl⟩, rfl, by decide⟩
theorem E44 : ElemAt Tryz.prog 44 113 [.int .u8 0, .int .i64 0] 2 16 := ⟨Tryz.underlying44, ⟨_, .agg [.int .u8 0, .int .i64 0].toArray, info_of Tryz.type113, rfl, rfl, rfl, rfl⟩, rfl, by decide⟩
theorem E49 : ElemAt Tryz.prog 49 79 [.int .u8 0, .int .i64 0] 2 16 := ⟨Tryz.underlying49, ⟨_, .agg [.int .u8 0, .int .i64 0].toArray, info_of Tryz.type79, rfl, rfl, rfl, rfl⟩, rfl, by decide⟩
theorem E54 : ElemAt Tryz.prog 54 58 [.string (bs []), .int .i64 0] 2 24 := ⟨Tryz.underlying54, ⟨_, .agg [.string (bs []), .int .i64 0].toArray, info_of Tryz.type58, rfl, rfl, rfl, rfl⟩, rfl, by decide⟩
theorem E59 : ElemAt Tryz.prog 59 31 [.int .i64 0] 1 8 := ⟨Tryz.underlying59, ⟨_, .int .i64 0, info_of Tryz.type31, rfl, rfl, rfl, rfl⟩, rfl, by decide⟩
theorem E64 : ElemAt Tryz.prog 64 63 [.int .i64 0, .int .i64 0, .int .i64 0, .int .i64 0, .slice none 0 0] 5 56 := ⟨Tryz.underlying64, ⟨_, .agg [.int .i64 0, .int .i64 0, .int .i64 0, .int .i64 0, .slice none 0 0].toArray, info_of Tryz.type63, rfl, rfl, rfl, rfl⟩, rfl, by decide⟩
theorem E86 : ElemAt Tryz.prog 86 3 [.int .i64 0] 1 8 := ⟨Tryz.underlying86, ⟨_, .int .i64 0, info_of Tryz.type3, rfl, rfl, rfl, rfl⟩, rfl, by decide⟩
theorem E124 : ElemAt Tryz.prog 124 86 [.slice none 0 0] 1 24 := ⟨Tryz.underlying124, ⟨_, .slice none 0 0, info_of Tryz.type86, rfl, rfl, rfl, rfl⟩, rfl, by decide⟩
theorem E183 : ElemAt Tryz.prog 183 182 [.nilFunc, .int .i64 0] 2 16 := ⟨Tryz.underlying183, ⟨_, .agg [.nilFunc, .int .i64 0].toArray, info_of Tryz.type182, rfl, rfl, rfl, rfl⟩, rfl, by decide⟩
theorem Q79 : EqAt Tryz.prog 79 encMark := ⟨fun x y w => by
 have h0 : Tryz.prog.underlying 79 = some (.struct (Tryz.prog.fieldsOf 79)) := by kernel_rfl
 rw [run_equalIn_struct w 9999 79 _ _ h0 (by kernel_rfl)]
 simp only [Program.fieldsOf, Tryz.underlying79]
 have e : (x = y) = (x.kind = y.kind ∧ x.value = y.value) := by cases x; cases y; simp
 simp only [e]
 simp [Op.eqFields, encMark, part, Tryz.isAgg3, Tryz.isAgg5, eqI9 Tryz.underlying5, eqI9 Tryz.underlying3]
 by_cases h0 : x.kind = y.kind <;> by_cases h1 : x.value = y.value <;> simp [h0, h1], by kernel_rfl⟩
theorem Q109 : EqAt Tryz.prog 109 encSwap := ⟨fun x y w => by
 have h0 : Tryz.prog.underlying 109 = some (.struct (Tryz.prog.fieldsOf 109)) := by kernel_rfl
 rw [run_equalIn_struct w 9999 109 _ _ h0 (by kernel_rfl)]
 simp only [Program.fieldsOf, Tryz.underlying109]
 have e : (x = y) = (x.kind = y.kind ∧ x.old_ = y.old_ ∧ x.new_ = y.new_) := by cases x; cases y; simp
 simp only [e]
 simp [Op.eqFields, encSwap, part, Tryz.isAgg3, Tryz.isAgg5, eqI9 Tryz.underlying5, eqI9 Tryz.underlying3, eqI9 Tryz.underlying3]
 by_cases h0 : x.kind = y.kind <;> by_cases h1 : x.old_ = y.old_ <;> by_cases h2 : x.new_ = y.new_ <;> simp [h0, h1, h2], by kernel_rfl⟩
theorem Q113 : EqAt Tryz.prog 113 encMark := ⟨fun x y w => by
 have h0 : Tryz.prog.underlying 113 = some (.struct (Tryz.prog.fieldsOf 113)) := by kernel_rfl
 rw [run_equalIn_struct w 9999 113 _ _ h0 (by kernel_rfl)]
 simp only [Program.fieldsOf, Tryz.underlying113]
 have e : (x = y) = (x.kind = y.kind ∧ x.value = y.value) := by cases x; cases y; simp
 simp only [e]
 simp [Op.eqFields, encMark, part, Tryz.isAgg3, Tryz.isAgg5, eqI9 Tryz.underlying5, eqI9 Tryz.underlying3]
 by_cases h0 : x.kind = y.kind <;> by_cases h1 : x.value = y.value <;> simp [h0, h1], by kernel_rfl⟩
end T4
set_option maxHeartbeats 4000000
namespace T4
open Go Go.Proofs Pk
noncomputable def m16_1 (l_0 : List Bytes) (s20 : Nat) : Option ((Nat) ⊕ ((Unit) ⊕ Bool)) :=
 if (s20 : Int) < (l_0.length : Int) then (
  (l_0[s20]?).bind fun x40 =>
  if 40 < (x40.length : Int) then (
   some (.inr (.inr false)))
  else
  some (.inl (s20 + 1)))
 else
 some (.inr (.inl ()))
noncomputable def m16 (l_0 : List Bytes) (most : Int) : Option (Bool) :=
 (loopO (m16_1 l_0) 0).bind fun e16 => match e16 with
 | .inr z => some z
 | .inl t19 =>
 some (decide ((l_0.length : Int) ≤ most))
noncomputable def m15_1 (l_0 : Lexicon) (s38 : Nat) : Option ((Nat) ⊕ ((Unit) ⊕ Bool)) :=
 ((
  if (s38 : Int) < (l_0.numbers.length : Int) then (
   some (decide ((s38 : Int) < 46)))
  else
  some false
 ) : Option (Bool)).bind fun t45 =>
 if t45 then (
  (l_0.numbers[s38]?).bind fun x67 =>
  if 40 < (x67.text.length : Int) then (
   some (.inr (.inr false)))
  else
  chk (-9223372036854775808 ≤ ((s38 : Int) + 1) ∧ ((s38 : Int) + 1) ≤ 9223372036854775807) <|
  some (.inl (s38 + 1)))
 else
 some (.inr (.inl ()))
noncomputable def m15_2 (l_0 : Lexicon) (s116 : Nat) : Option ((Nat) ⊕ ((Unit) ⊕ Bool)) :=
 ((
  if (s116 : Int) < (l_0.names.length : Int) then (
   some (decide ((s116 : Int) < 46)))
  else
  some false
 ) : Option (Bool)).bind fun t123 =>
 if t123 then (
  (l_0.names[s116]?).bind fun x152 =>
  (m16 x152 8).bind fun r164 =>
  if r164 then (
   chk (-9223372036854775808 ≤ ((s116 : Int) + 1) ∧ ((s116 : Int) + 1) ≤ 9223372036854775807) <|
   some (.inl (s116 + 1)))
  else
  some (.inr (.inr false)))
 else
 some (.inr (.inl ()))
noncomputable def m15 (l_0 : Lexicon) (swaps : List Swap) : Option (Bool) :=
 (loopO (m15_1 l_0) 0).bind fun e34 => match e34 with
 | .inr z => some z
 | .inl t37 =>
 (loopO (m15_2 l_0) 0).bind fun e112 => match e112 with
 | .inr z => some z
 | .inl t115 =>
 ((
  if (l_0.numbers.length : Int) ≤ 45 then (
   if (l_0.names.length : Int) ≤ 45 then (
    (m16 l_0.nots 45).bind fun r195 =>
    if r195 then (
     some (decide ((swaps.length : Int) ≤ 25)))
    else
    some false)
   else
   some false)
  else
  some false
 ) : Option (Bool)).bind fun t188 =>
 some t188
noncomputable def m48  : Option (Lexicon × List Swap) :=
 some ((⟨([(⟨[116, 101, 110], 10⟩ : Number), (⟨[109, 105, 108, 108, 105, 111, 110], 1000000⟩ : Number)] : List Number), ([([[83, 109, 105, 116, 104], [83, 109, 121, 116, 104]] : List Bytes), ([[74, 111, 110, 101, 115]] : List Bytes)] : List (List Bytes)), ([[110, 111, 116], [110, 101, 118, 101, 114]] : List Bytes)⟩ : Lexicon), ([(⟨1, 10, 12⟩ : Swap)] : List Swap))
noncomputable def m84 (n_0 : Int) (low : Int) (high : Int) : Option (Bool) :=
 ((
  if low ≤ n_0 then (
   some (decide (n_0 ≤ high)))
  else
  some false
 ) : Option (Bool)).bind fun t4 =>
 some t4
noncomputable def m136 (x_0 : Int) (f0_ : Int → Option Bool) : Option (Bool) :=
 (f0_ x_0).bind fun r1 =>
 some (!r1)
noncomputable def m153_1 (s_0 : List UInt8) (f_1 : Int → Option Bool) (s23 : Nat) : Option ((Nat) ⊕ ((Unit) ⊕ Int)) :=
 if (s23 : Int) < (s_0.length : Int) then (
  (s_0[s23]?).bind fun x46 =>
  (f_1 (x46.toNat : Int)).bind fun r54 =>
  if r54 then (
   some (.inr (.inr (s23 : Int))))
  else
  some (.inl (s23 + 1)))
 else
 some (.inr (.inl ()))
noncomputable def m153 (s_0 : List UInt8) (f_1 : Int → Option Bool) : Option (Int) :=
 (loopO (m153_1 s_0 f_1) 0).bind fun e19 => match e19 with
 | .inr z => some z
 | .inl t22 =>
 some (-1)
noncomputable def m135 (s_0 : List UInt8) (f_1 : Int → Option Bool) : Option (Bool) :=
 (m153 s_0 f_1).bind fun r1 =>
 some (decide (0 ≤ r1))
noncomputable def m104 (l_0 : List UInt8) (right : Int → Option Bool) : Option (Bool) :=
 (m135 l_0 (fun x0_ => m136 x0_ right)).bind fun r5 =>
 some (!r5)
noncomputable def m105 (b_0 : Int) : Option (Bool) :=
 ((
  if (33 : Int) ≤ b_0 then (
   some (decide (b_0 ≤ 126)))
  else
  some false
 ) : Option (Bool)).bind fun t4 =>
 some t4
noncomputable def m78 (s_0 : Bytes) : Option (Bool) :=
 ((
  (m84 (s_0.length : Int) 1 32).bind fun r20 =>
  if r20 then (
   chk (s_0.length ≤ 1073741824) <|
   (m104 s_0 (m105)).bind fun r32 =>
   some r32)
  else
  some false
 ) : Option (Bool)).bind fun t17 =>
 some t17
noncomputable def m72 (n_0 : Int) : Option (Bool) :=
 (m84 n_0 0 999999999).bind fun r1 =>
 some r1
noncomputable def m82 (n_0 : Number) : Option (Bool) :=
 ((
  (m78 n_0.text).bind fun r16 =>
  if r16 then (
   (m72 n_0.value).bind fun r21 =>
   some r21)
  else
  some false
 ) : Option (Bool)).bind fun t13 =>
 some t13
noncomputable def m103 (x_0 : Bytes) (f0_ : Bytes → Option Bool) : Option (Bool) :=
 (f0_ x_0).bind fun r1 =>
 some (!r1)
noncomputable def m134_1 (s_0 : List Bytes) (f_1 : Bytes → Option Bool) (s23 : Nat) : Option ((Nat) ⊕ ((Unit) ⊕ Int)) :=
 if (s23 : Int) < (s_0.length : Int) then (
  (s_0[s23]?).bind fun x46 =>
  (f_1 x46).bind fun r54 =>
  if r54 then (
   some (.inr (.inr (s23 : Int))))
  else
  some (.inl (s23 + 1)))
 else
 some (.inr (.inl ()))
noncomputable def m134 (s_0 : List Bytes) (f_1 : Bytes → Option Bool) : Option (Int) :=
 (loopO (m134_1 s_0 f_1) 0).bind fun e19 => match e19 with
 | .inr z => some z
 | .inl t22 =>
 some (-1)
noncomputable def m102 (s_0 : List Bytes) (f_1 : Bytes → Option Bool) : Option (Bool) :=
 (m134 s_0 f_1).bind fun r1 =>
 some (decide (0 ≤ r1))
noncomputable def m77 (l_0 : List Bytes) (right : Bytes → Option Bool) : Option (Bool) :=
 (m102 l_0 (fun x0_ => m103 x0_ right)).bind fun r5 =>
 some (!r5)
noncomputable def m83 (l_0 : List Bytes) : Option (Bool) :=
 ((
  (m84 (l_0.length : Int) 1 5).bind fun r14 =>
  if r14 then (
   (m77 l_0 (m78)).bind fun r20 =>
   some r20)
  else
  some false
 ) : Option (Bool)).bind fun t11 =>
 some t11
noncomputable def m110 (x_0 : Number) (f0_ : Number → Option Bool) : Option (Bool) :=
 (f0_ x_0).bind fun r4 =>
 some (!r4)
noncomputable def m141_1 (s_0 : List Number) (f_1 : Number → Option Bool) (s23 : Nat) : Option ((Nat) ⊕ ((Unit) ⊕ Int)) :=
 if (s23 : Int) < (s_0.length : Int) then (
  (s_0[s23]?).bind fun x46 =>
  (f_1 x46).bind fun r54 =>
  if r54 then (
   some (.inr (.inr (s23 : Int))))
  else
  some (.inl (s23 + 1)))
 else
 some (.inr (.inl ()))
noncomputable def m141 (s_0 : List Number) (f_1 : Number → Option Bool) : Option (Int) :=
 (loopO (m141_1 s_0 f_1) 0).bind fun e19 => match e19 with
 | .inr z => some z
 | .inl t22 =>
 some (-1)
noncomputable def m109 (s_0 : List Number) (f_1 : Number → Option Bool) : Option (Bool) :=
 (m141 s_0 f_1).bind fun r1 =>
 some (decide (0 ≤ r1))
noncomputable def m85 (l_0 : List Number) (right : Number → Option Bool) : Option (Bool) :=
 (m109 l_0 (fun x0_ => m110 x0_ right)).bind fun r5 =>
 some (!r5)
noncomputable def m101 (x_0 : List Bytes) (f0_ : (List Bytes) → Option Bool) : Option (Bool) :=
 (f0_ x_0).bind fun r1 =>
 some (!r1)
noncomputable def m133_1 (s_0 : List (List Bytes)) (f_1 : (List Bytes) → Option Bool) (s27 : Nat) : Option ((Nat) ⊕ ((Unit) ⊕ Int)) :=
 if (s27 : Int) < (s_0.length : Int) then (
  (s_0[s27]?).bind fun x54 =>
  (f_1 x54).bind fun r66 =>
  if r66 then (
   some (.inr (.inr (s27 : Int))))
  else
  some (.inl (s27 + 1)))
 else
 some (.inr (.inl ()))
noncomputable def m133 (s_0 : List (List Bytes)) (f_1 : (List Bytes) → Option Bool) : Option (Int) :=
 (loopO (m133_1 s_0 f_1) 0).bind fun e23 => match e23 with
 | .inr z => some z
 | .inl t26 =>
 some (-1)
noncomputable def m100 (s_0 : List (List Bytes)) (f_1 : (List Bytes) → Option Bool) : Option (Bool) :=
 (m133 s_0 f_1).bind fun r1 =>
 some (decide (0 ≤ r1))
noncomputable def m74 (l_0 : List (List Bytes)) (right : (List Bytes) → Option Bool) : Option (Bool) :=
 (m100 l_0 (fun x0_ => m101 x0_ right)).bind fun r5 =>
 some (!r5)
noncomputable def m111_1 (f0_ : Lexicon) (yield : Bytes → Mark → Option Bool) (s35 : Nat) : Option ((Nat) ⊕ ((Unit) ⊕ Unit)) :=
 if (s35 : Int) < (f0_.numbers.length : Int) then (
  (f0_.numbers[s35]?).bind fun x61 =>
  (yield x61.text (⟨1, x61.value⟩ : Mark)).bind fun r72 =>
  if r72 then (
   some (.inl (s35 + 1)))
  else
  some (.inr (.inr ())))
 else
 some (.inr (.inl ()))
noncomputable def m111_3 (x161 : List Bytes) (yield : Bytes → Mark → Option Bool) (s121 : Nat) (s195 : Nat) : Option ((Nat) ⊕ ((Unit) ⊕ ((Nat) ⊕ ((Unit) ⊕ Unit)))) :=
 if (s195 : Int) < (x161.length : Int) then (
  (x161[s195]?).bind fun x218 =>
  (yield x218 (⟨2, (s121 : Int)⟩ : Mark)).bind fun r226 =>
  if r226 then (
   some (.inl (s195 + 1)))
  else
  some (.inr (.inr (.inr (.inr ())))))
 else
 some (.inr (.inl ()))
noncomputable def m111_2 (f0_ : Lexicon) (yield : Bytes → Mark → Option Bool) (s121 : Nat) : Option ((Nat) ⊕ ((Unit) ⊕ Unit)) :=
 if (s121 : Int) < (f0_.names.length : Int) then (
  (f0_.names[s121]?).bind fun x161 =>
  (loopO (m111_3 x161 yield s121) 0).bind fun e191 => match e191 with
  | .inr z => some z
  | .inl t194 =>
  some (.inl (s121 + 1)))
 else
 some (.inr (.inl ()))
noncomputable def m111_4 (f0_ : Lexicon) (yield : Bytes → Mark → Option Bool) (s259 : Nat) : Option ((Nat) ⊕ ((Unit) ⊕ Unit)) :=
 if (s259 : Int) < (f0_.nots.length : Int) then (
  (f0_.nots[s259]?).bind fun x282 =>
  (yield x282 (⟨3, 0⟩ : Mark)).bind fun r290 =>
  if r290 then (
   some (.inl (s259 + 1)))
  else
  some (.inr (.inr ())))
 else
 some (.inr (.inl ()))
noncomputable def m111 (yield : Bytes → Mark → Option Bool) (f0_ : Lexicon) : Option (Unit) :=
 (loopO (m111_1 f0_ yield) 0).bind fun e31 => match e31 with
 | .inr z => some z
 | .inl t34 =>
 (loopO (m111_2 f0_ yield) 0).bind fun e117 => match e117 with
 | .inr z => some z
 | .inl t120 =>
 (loopO (m111_4 f0_ yield) 0).bind fun e255 => match e255 with
 | .inr z => some z
 | .inl t258 =>
 some ()
noncomputable def m58_1 (l_0 : Lexicon) (s675 : Nat × (List (Bytes × Mark))) : Option ((Nat × (List (Bytes × Mark))) ⊕ (((List (Bytes × Mark))) ⊕ ((Nat × (List (Bytes × Mark))) ⊕ ((List (Bytes × Mark)))))) :=
 if (s675.1 : Int) < (l_0.numbers.length : Int) then (
  (l_0.numbers[s675.1]?).bind fun x709 =>
  ((
   if (lkp s675.2 x709.text).isSome then (
    some (.inl 6))
   else
   some (.inr (put s675.2 x709.text (⟨1, x709.value⟩ : Mark)))
  ) : Option ((Nat) ⊕ ((List (Bytes × Mark))))).bind fun t729 => match t729 with
  | .inl t732 => (
   some (.inr (.inr (.inl (t732, s675.2)))))
  | .inr t733 => (
   some (.inl ((s675.1 + 1), t733))))
 else
 some (.inr (.inl s675.2))
noncomputable def m58_3 (x969 : List Bytes) (s895 : Nat × (List (Bytes × Mark))) (s1037 : Nat × (List (Bytes × Mark))) : Option ((Nat × (List (Bytes × Mark))) ⊕ (((List (Bytes × Mark))) ⊕ ((Nat × (List (Bytes × Mark))) ⊕ (((List (Bytes × Mark))) ⊕ ((Nat × (List (Bytes × Mark))) ⊕ ((List (Bytes × Mark)))))))) :=
 if (s1037.1 : Int) < (x969.length : Int) then (
  (x969[s1037.1]?).bind fun x1068 =>
  ((
   if (lkp s1037.2 x1068).isSome then (
    some (.inl 6))
   else
   some (.inr (put s1037.2 x1068 (⟨2, (s895.1 : Int)⟩ : Mark)))
  ) : Option ((Nat) ⊕ ((List (Bytes × Mark))))).bind fun t1085 => match t1085 with
  | .inl t1088 => (
   some (.inr (.inr (.inr (.inr (.inl (t1088, s1037.2)))))))
  | .inr t1089 => (
   some (.inl ((s1037.1 + 1), t1089))))
 else
 some (.inr (.inl s1037.2))
noncomputable def m58_2 (l_0 : Lexicon) (s895 : Nat × (List (Bytes × Mark))) : Option ((Nat × (List (Bytes × Mark))) ⊕ (((List (Bytes × Mark))) ⊕ ((Nat × (List (Bytes × Mark))) ⊕ ((List (Bytes × Mark)))))) :=
 if (s895.1 : Int) < (l_0.names.length : Int) then (
  (l_0.names[s895.1]?).bind fun x969 =>
  (loopO (m58_3 x969 s895) (0, s895.2)).bind fun e1033 => match e1033 with
  | .inr z => some z
  | .inl t1036 =>
  some (.inl ((s895.1 + 1), t1036)))
 else
 some (.inr (.inl s895.2))
noncomputable def m58_4 (l_0 : Lexicon) (s1166 : Nat × (List (Bytes × Mark))) : Option ((Nat × (List (Bytes × Mark))) ⊕ (((List (Bytes × Mark))) ⊕ ((Nat × (List (Bytes × Mark))) ⊕ ((List (Bytes × Mark)))))) :=
 if (s1166.1 : Int) < (l_0.nots.length : Int) then (
  (l_0.nots[s1166.1]?).bind fun x1197 =>
  ((
   if (lkp s1166.2 x1197).isSome then (
    some (.inl 6))
   else
   some (.inr (put s1166.2 x1197 (⟨3, 0⟩ : Mark)))
  ) : Option ((Nat) ⊕ ((List (Bytes × Mark))))).bind fun t1214 => match t1214 with
  | .inl t1217 => (
   some (.inr (.inr (.inl (t1217, s1166.2)))))
  | .inr t1218 => (
   some (.inl ((s1166.1 + 1), t1218))))
 else
 some (.inr (.inl s1166.2))
noncomputable def m58 (l_0 : Lexicon) : Option ((List (Bytes × Mark)) × Int) :=
 ((
  if (l_0.numbers.length : Int) ≤ 40 then (
   if (l_0.names.length : Int) ≤ 40 then (
    some (decide ((l_0.nots.length : Int) ≤ 40)))
   else
   some false)
  else
  some false
 ) : Option (Bool)).bind fun t21 =>
 ((
  if t21 then (
   (m85 l_0.numbers (m82)).bind fun r57 =>
   if r57 then (
    (m74 l_0.names (m83)).bind fun r63 =>
    if r63 then (
     (m77 l_0.nots (m78)).bind fun r69 =>
     some (!r69))
    else
    some true)
   else
   some true)
  else
  some true
 ) : Option (Bool)).bind fun t51 =>
 if t51 then (
  some ([], 1))
 else
 ((
  (loopO (m58_1 l_0) (0, ([] : List (Bytes × Mark)))).bind fun e671 => match e671 with
  | .inr z => some z
  | .inl t674 =>
  (loopO (m58_2 l_0) (0, t674)).bind fun e891 => match e891 with
  | .inr z => some z
  | .inl t894 =>
  (loopO (m58_4 l_0) (0, t894)).bind fun e1162 => match e1162 with
  | .inr z => some z
  | .inl t1165 =>
  some (.inr t1165)
 ) : Option ((Nat × (List (Bytes × Mark))) ⊕ ((List (Bytes × Mark))))).bind fun t608 => match t608 with
 | .inl t611 => (
  some ([], (t611.1 : Int)))
 | .inr t612 => (
  some (t612, 0))
noncomputable def m75 (l_0 : List Bytes) : Option (Bool) :=
 some (decide ((l_0.length : Int) ≤ 80))
noncomputable def m76 (l_0 : List Bytes) : Option (Bool) :=
 (m77 l_0 (m78)).bind fun r2 =>
 some r2
noncomputable def m52 (lists : List (List Bytes)) : Option (Int) :=
 (m74 lists (m75)).bind fun r16 =>
 if r16 then (
  (m74 lists (m76)).bind fun r33 =>
  if r33 then (
   some 0)
  else
  some 1)
 else
 some 3
noncomputable def m80 (m_0 : List (Bytes × Mark)) (s_1 : Bytes) : Option (Mark × Bool) :=
 if (lkp m_0 s_1).isSome then (
  some (((lkp m_0 s_1).getD (⟨0, 0⟩ : Mark)), true))
 else
 (m107 s_1).bind fun r11 =>
 ((
  if r11.2 then (
   some true)
  else
  (m72 r11.1).bind fun r35 =>
  if r35 then (
   (m108 r11.1).bind fun r40 =>
   some (decide (r40 ≠ s_1)))
  else
  some true
 ) : Option (Bool)).bind fun t29 =>
 if t29 then (
  some ((⟨0, 0⟩ : Mark), false))
 else
 some ((⟨1, r11.1⟩ : Mark), true)
noncomputable def m54_1 (texts : List Bytes) (m_0 : List (Bytes × Mark)) (s107 : Nat × List Mark) : Option ((Nat × List Mark) ⊕ (List Mark)) :=
 if (s107.1 : Int) < (texts.length : Int) then (
  (texts[s107.1]?).bind fun x143 =>
  (m80 m_0 x143).bind fun r151 =>
  ((
   if r151.2 then (
    chk (s107.2.length + 1 ≤ 1073741824) <|
    some (s107.2 ++ [r151.1]))
   else
   some s107.2
  ) : Option (List Mark)).bind fun t165 =>
  some (.inl ((s107.1 + 1), t165)))
 else
 some (.inr s107.2)
noncomputable def m54 (m_0 : List (Bytes × Mark)) (texts : List Bytes) : Option (List Mark) :=
 (loopO (m54_1 texts m_0) (0, ([] : List Mark))).bind fun e102 =>
 some e102
noncomputable def m26 (l_0 : Lexicon) (texts : List Bytes) : Option (List Mark × Int) :=
 (m58 l_0).bind fun r13 =>
 if r13.2 ≠ 0 then (
  some (([] : List Mark), r13.2))
 else
 (m52 ([texts] : List (List Bytes))).bind fun r31 =>
 if r31 ≠ 0 then (
  some (([] : List Mark), r31))
 else
 (m54 r13.1 texts).bind fun r40 =>
 some (r40, 0)
noncomputable def m71 (s_0 : Swap) : Option (Bool) :=
 ((
  if s_0.kind = 1 then (
   (m72 s_0.old_).bind fun r33 =>
   if r33 then (
    (m72 s_0.new_).bind fun r38 =>
    some r38)
   else
   some false)
  else
  if s_0.kind = 2 then (
   (m72 s_0.old_).bind fun r45 =>
   if r45 then (
    (m72 s_0.new_).bind fun r50 =>
    some r50)
   else
   some false)
  else
  some false
 ) : Option (Bool)).bind fun t28 =>
 some t28
noncomputable def m99 (x_0 : Swap) (f0_ : Swap → Option Bool) : Option (Bool) :=
 (f0_ x_0).bind fun r4 =>
 some (!r4)
noncomputable def m132_1 (s_0 : List Swap) (f_1 : Swap → Option Bool) (s23 : Nat) : Option ((Nat) ⊕ ((Unit) ⊕ Int)) :=
 if (s23 : Int) < (s_0.length : Int) then (
  (s_0[s23]?).bind fun x46 =>
  (f_1 x46).bind fun r54 =>
  if r54 then (
   some (.inr (.inr (s23 : Int))))
  else
  some (.inl (s23 + 1)))
 else
 some (.inr (.inl ()))
noncomputable def m132 (s_0 : List Swap) (f_1 : Swap → Option Bool) : Option (Int) :=
 (loopO (m132_1 s_0 f_1) 0).bind fun e19 => match e19 with
 | .inr z => some z
 | .inl t22 =>
 some (-1)
noncomputable def m98 (s_0 : List Swap) (f_1 : Swap → Option Bool) : Option (Bool) :=
 (m132 s_0 f_1).bind fun r1 =>
 some (decide (0 ≤ r1))
noncomputable def m73 (l_0 : List Swap) (right : Swap → Option Bool) : Option (Bool) :=
 (m98 l_0 (fun x0_ => m99 x0_ right)).bind fun r5 =>
 some (!r5)
noncomputable def m51 (l_0 : Lexicon) (swaps : List Swap) : Option (rules × Int) :=
 (m58 l_0).bind fun r14 =>
 if r14.2 ≠ 0 then (
  some ((⟨[], ([] : List Swap)⟩ : rules), r14.2))
 else
 if 20 < (swaps.length : Int) then (
  some ((⟨[], ([] : List Swap)⟩ : rules), 3))
 else
 (m73 swaps (m71)).bind fun r63 =>
 if r63 then (
  some ((⟨r14.1, swaps⟩ : rules), 0))
 else
 some ((⟨[], ([] : List Swap)⟩ : rules), 1)
noncomputable def m137_1 (s_0 : List Swap) (v_1 : Swap) (s24 : Nat) : Option ((Nat) ⊕ ((Unit) ⊕ Int)) :=
 if (s24 : Int) < (s_0.length : Int) then (
  (s_0[s24]?).bind fun x45 =>
  if v_1 = x45 then (
   some (.inr (.inr (s24 : Int))))
  else
  some (.inl (s24 + 1)))
 else
 some (.inr (.inl ()))
noncomputable def m137 (s_0 : List Swap) (v_1 : Swap) : Option (Int) :=
 (loopO (m137_1 s_0 v_1) 0).bind fun e20 => match e20 with
 | .inr z => some z
 | .inl t23 =>
 some (-1)
noncomputable def m106 (s_0 : List Swap) (v_1 : Swap) : Option (Bool) :=
 (m137 s_0 v_1).bind fun r4 =>
 some (decide (0 ≤ r4))
noncomputable def m79 (r_0 : rules) (a_1 : Mark) (b_2 : Mark) : Option (Bool) :=
 ((
  if a_1 = b_2 then (
   some true)
  else
  if a_1.kind = b_2.kind then (
   (m106 r_0.swaps (⟨a_1.kind, a_1.value, b_2.value⟩ : Swap)).bind fun r33 =>
   some r33)
  else
  some false
 ) : Option (Bool)).bind fun t25 =>
 some t25
noncomputable def m53_1 (b_2 : List Mark) (s57 : Nat × List Int) : Option ((Nat × List Int) ⊕ (List Int)) :=
 if (s57.1 : Int) < ((b_2.length : Int) + 1) then (
  chk (s57.2.length + 1 ≤ 1073741824) <|
  chk (-9223372036854775808 ≤ ((s57.1 : Int) + 1) ∧ ((s57.1 : Int) + 1) ≤ 9223372036854775807) <|
  some (.inl ((s57.1 + 1), (s57.2 ++ [(s57.1 : Int)]))))
 else
 some (.inr s57.2)
noncomputable def m53_3 (b_2 : List Mark) (s664 : Nat × List Int × List Int) (r_0 : rules) (x877 : Mark) (s1075 : Nat × List Int) : Option ((Nat × List Int) ⊕ (List Int)) :=
 if (s1075.1 : Int) < (b_2.length : Int) then (
  (b_2[s1075.1]?).bind fun x1142 =>
  (s664.2.1[s1075.1]?).bind fun x1151 =>
  chk (-9223372036854775808 ≤ (x1151 + 1) ∧ (x1151 + 1) ≤ 9223372036854775807) <|
  (m79 r_0 x877 x1142).bind fun r1161 =>
  ((
   if r1161 then (
    chk (-9223372036854775808 ≤ ((x1151 + 1) - 1) ∧ ((x1151 + 1) - 1) ≤ 9223372036854775807) <|
    some ((x1151 + 1) - 1))
   else
   some (x1151 + 1)
  ) : Option (Int)).bind fun t1169 =>
  (s664.2.1[((s1075.1 : Int) + 1).toNat]?).bind fun x1177 =>
  chk (-9223372036854775808 ≤ (x1177 + 1) ∧ (x1177 + 1) ≤ 9223372036854775807) <|
  (s1075.2[s1075.1]?).bind fun x1186 =>
  chk (-9223372036854775808 ≤ (x1186 + 1) ∧ (x1186 + 1) ≤ 9223372036854775807) <|
  chk (s1075.2.length + ([(min (min t1169 (x1177 + 1)) (x1186 + 1))] : List Int).length ≤ 1073741824) <|
  some (.inl ((s1075.1 + 1), (s1075.2 ++ ([(min (min t1169 (x1177 + 1)) (x1186 + 1))] : List Int)))))
 else
 some (.inr s1075.2)
noncomputable def m53_2 (a_1 : List Mark) (b_2 : List Mark) (r_0 : rules) (s664 : Nat × List Int × List Int) : Option ((Nat × List Int × List Int) ⊕ (List Int × List Int)) :=
 if (s664.1 : Int) < (a_1.length : Int) then (
  (a_1[s664.1]?).bind fun x877 =>
  (loopO (m53_3 b_2 s664 r_0 x877) (0, ([((s664.1 : Int) + 1)] : List Int))).bind fun e1070 =>
  some (.inl ((s664.1 + 1), e1070, e1070)))
 else
 some (.inr (s664.2.1, s664.2.2))
noncomputable def m53 (r_0 : rules) (a_1 : List Mark) (b_2 : List Mark) : Option (Int) :=
 chk (-9223372036854775808 ≤ ((b_2.length : Int) + 1) ∧ ((b_2.length : Int) + 1) ≤ 9223372036854775807) <|
 (loopO (m53_1 b_2) (0, ([] : List Int))).bind fun e52 =>
 (loopO (m53_2 a_1 b_2 r_0) (0, e52, ([] : List Int))).bind fun e653 =>
 (e653.1[b_2.length]?).bind fun x1209 =>
 some x1209
noncomputable def m18 (l_0 : Lexicon) (swaps : List Swap) (old_2 : List Bytes) (new_3 : List Bytes) : Option (Int × Int) :=
 (m51 l_0 swaps).bind fun r13 =>
 if r13.2 ≠ 0 then (
  some (0, r13.2))
 else
 (m52 ([old_2, new_3] : List (List Bytes))).bind fun r41 =>
 if r41 ≠ 0 then (
  some (0, r41))
 else
 (m54 r13.1.meanings old_2).bind fun r50 =>
 (m54 r13.1.meanings new_3).bind fun r60 =>
 (m53 r13.1 r50 r60).bind fun r71 =>
 some (r71, 0)
noncomputable def m49  : Option (Report × List Request) :=
 some ((⟨([(⟨[83, 109, 105, 116, 104], 1⟩ : Said), (⟨[112, 97, 105, 100], 1⟩ : Said), (⟨[116, 101, 110], 1⟩ : Said), (⟨[121, 101, 115], 2⟩ : Said)] : List Said), 100, 60⟩ : Report), ([(⟨1, 120, 1, 1, ([[104, 97, 115], [112, 97, 105, 100]] : List Bytes)⟩ : Request), (⟨1, 110, 2, 1, ([[49, 50]] : List Bytes)⟩ : Request), (⟨2, 130, 2, 1, ([[49, 48]] : List Bytes)⟩ : Request), (⟨2, 161, 3, 1, ([[110, 111]] : List Bytes)⟩ : Request), (⟨2, 160, 3, 1, ([[110, 111, 116]] : List Bytes)⟩ : Request)] : List Request))
noncomputable def m91 (w_0 : Said) : Option (Bool) :=
 ((
  (m78 w_0.text).bind fun r16 =>
  if r16 then (
   (m84 w_0.speaker 0 999).bind fun r21 =>
   some r21)
  else
  some false
 ) : Option (Bool)).bind fun t13 =>
 some t13
noncomputable def m121 (x_0 : Said) (f0_ : Said → Option Bool) : Option (Bool) :=
 (f0_ x_0).bind fun r4 =>
 some (!r4)
noncomputable def m147_1 (s_0 : List Said) (f_1 : Said → Option Bool) (s23 : Nat) : Option ((Nat) ⊕ ((Unit) ⊕ Int)) :=
 if (s23 : Int) < (s_0.length : Int) then (
  (s_0[s23]?).bind fun x46 =>
  (f_1 x46).bind fun r54 =>
  if r54 then (
   some (.inr (.inr (s23 : Int))))
  else
  some (.inl (s23 + 1)))
 else
 some (.inr (.inl ()))
noncomputable def m147 (s_0 : List Said) (f_1 : Said → Option Bool) : Option (Int) :=
 (loopO (m147_1 s_0 f_1) 0).bind fun e19 => match e19 with
 | .inr z => some z
 | .inl t22 =>
 some (-1)
noncomputable def m120 (s_0 : List Said) (f_1 : Said → Option Bool) : Option (Bool) :=
 (m147 s_0 f_1).bind fun r1 =>
 some (decide (0 ≤ r1))
noncomputable def m92 (l_0 : List Said) (right : Said → Option Bool) : Option (Bool) :=
 (m120 l_0 (fun x0_ => m121 x0_ right)).bind fun r5 =>
 some (!r5)
noncomputable def m61 (r_0 : Report) : Option (Int) :=
 ((
  if 80 < (r_0.words.length : Int) then (
   some true)
  else
  (m92 r_0.words (m91)).bind fun r33 =>
  if r33 then (
   (m84 r_0.out 0 100000).bind fun r38 =>
   if r38 then (
    (m84 r_0.within 0 100000).bind fun r43 =>
    some (!r43))
   else
   some true)
  else
  some true
 ) : Option (Bool)).bind fun t26 =>
 if t26 then (
  some 1)
 else
 some 0
noncomputable def m113 (x_0 : Int) : Option (Bool) :=
 some (decide (x_0 ≠ x_0))
noncomputable def m89 (x_0 : Int) (y_1 : Int) : Option (Int) :=
 (m113 x_0).bind fun r1 =>
 (m113 y_1).bind fun r4 =>
 if r1 then (
  if r4 then (
   some 0)
  else
  some (-1))
 else
 if r4 then (
  some 1)
 else
 if x_0 < y_1 then (
  some (-1))
 else
 if y_1 < x_0 then (
  some 1)
 else
 some 0
noncomputable def m97_1 (vals : List Int) (s20 : Nat) : Option ((Nat) ⊕ ((Unit) ⊕ Int)) :=
 if (s20 : Int) < (vals.length : Int) then (
  (vals[s20]?).bind fun x40 =>
  if x40 ≠ 0 then (
   some (.inr (.inr x40)))
  else
  some (.inl (s20 + 1)))
 else
 some (.inr (.inl ()))
noncomputable def m97 (vals : List Int) : Option (Int) :=
 (loopO (m97_1 vals) 0).bind fun e16 => match e16 with
 | .inr z => some z
 | .inl t19 =>
 some 0
noncomputable def m66 (l_0 : List Int) : Option (Int) :=
 (m97 l_0).bind fun r1 =>
 some r1
noncomputable def m88 (a_0 : Int) (b_1 : Int) (f0_ : List Request) : Option (Int) :=
 chk (0 ≤ a_0) <|
 (f0_[a_0.toNat]?).bind fun x3 =>
 chk (0 ≤ b_1) <|
 (f0_[b_1.toNat]?).bind fun x17 =>
 (m89 x3.minute x17.minute).bind fun r28 =>
 (m89 x3.by_ x17.by_).bind fun r32 =>
 (m66 ([r28, r32] : List Int)).bind fun r40 =>
 some r40
noncomputable def m114 (d_0 : decided) (q_1 : Request) : Option (Bool) :=
 ((
  if 0 ≤ q_1.from_ then (
   if 0 ≤ q_1.cut then (
    chk (-9223372036854775808 ≤ ((d_0.report.words.length : Int) - q_1.cut) ∧ ((d_0.report.words.length : Int) - q_1.cut) ≤ 9223372036854775807) <|
    some (decide (q_1.from_ ≤ ((d_0.report.words.length : Int) - q_1.cut))))
   else
   some false)
  else
  some false
 ) : Option (Bool)).bind fun t35 =>
 some t35
noncomputable def m115 (d_0 : decided) (q_1 : Request) : Option (Bool) :=
 ((
  if q_1.cut ≤ 8 then (
   if (q_1.put_.length : Int) ≤ 8 then (
    (m77 q_1.put_ (m78)).bind fun r53 =>
    if r53 then (
     chk (-9223372036854775808 ≤ (q_1.cut + (q_1.put_.length : Int)) ∧ (q_1.cut + (q_1.put_.length : Int)) ≤ 9223372036854775807) <|
     if 0 < (q_1.cut + (q_1.put_.length : Int)) then (
      (m84 q_1.by_ 0 999).bind fun r62 =>
      some r62)
     else
     some false)
    else
    some false)
   else
   some false)
  else
  some false
 ) : Option (Bool)).bind fun t45 =>
 some t45
noncomputable def m143 (w_0 : Said) (f0_ : Request) : Option (Bool) :=
 some (decide (w_0.speaker = f0_.by_))
noncomputable def m69 (q_0 : Request) : Option (Int) :=
 chk (-9223372036854775808 ≤ (q_0.from_ + q_0.cut) ∧ (q_0.from_ + q_0.cut) ≤ 9223372036854775807) <|
 some (q_0.from_ + q_0.cut)
noncomputable def m116 (d_0 : decided) (q_1 : Request) : Option (Bool) :=
 if 0 < q_1.cut then (
  (m69 q_1).bind fun r49 =>
  chk (0 ≤ q_1.from_) <|
  chk (0 ≤ r49) <|
  chk (q_1.from_.toNat ≤ r49.toNat ∧ r49.toNat ≤ d_0.report.words.length) <|
  (m92 ((d_0.report.words.drop q_1.from_.toNat).take (r49.toNat - q_1.from_.toNat)) (fun x0_ => m143 x0_ q_1)).bind fun r66 =>
  some r66)
 else
 chk (-9223372036854775808 ≤ (q_1.from_ - 1) ∧ (q_1.from_ - 1) ≤ 9223372036854775807) <|
 chk (-9223372036854775808 ≤ (q_1.from_ + 1) ∧ (q_1.from_ + 1) ≤ 9223372036854775807) <|
 chk (0 ≤ (min (d_0.report.words.length : Int) (q_1.from_ + 1))) <|
 chk ((max 0 (q_1.from_ - 1)).toNat ≤ (min (d_0.report.words.length : Int) (q_1.from_ + 1)).toNat ∧ (min (d_0.report.words.length : Int) (q_1.from_ + 1)).toNat ≤ d_0.report.words.length) <|
 (m120 ((d_0.report.words.drop ((max 0 (q_1.from_ - 1)).toNat)).take ((min (d_0.report.words.length : Int) (q_1.from_ + 1)).toNat - ((max 0 (q_1.from_ - 1)).toNat))) (fun x0_ => m143 x0_ q_1)).bind fun r86 =>
 some r86
noncomputable def m117 (d_0 : decided) (q_1 : Request) : Option (Bool) :=
 chk (-9223372036854775808 ≤ (d_0.report.out + d_0.report.within) ∧ (d_0.report.out + d_0.report.within) ≤ 9223372036854775807) <|
 (m84 q_1.minute d_0.report.out (d_0.report.out + d_0.report.within)).bind fun r27 =>
 some r27
noncomputable def m68_1 (r_0 : Report) (from_1 : Int) (to_2 : Int) (s87 : Nat × List Bytes) : Option ((Nat × List Bytes) ⊕ (List Bytes)) :=
 if (s87.1 : Int) < (((r_0.words.drop from_1.toNat).take (to_2.toNat - from_1.toNat)).length : Int) then (
  (((r_0.words.drop from_1.toNat).take (to_2.toNat - from_1.toNat))[s87.1]?).bind fun x114 =>
  chk (s87.2.length + 1 ≤ 1073741824) <|
  some (.inl ((s87.1 + 1), (s87.2 ++ [x114.text]))))
 else
 some (.inr s87.2)
noncomputable def m68 (r_0 : Report) (from_1 : Int) (to_2 : Int) : Option (List Bytes) :=
 chk (0 ≤ from_1) <|
 chk (0 ≤ to_2) <|
 chk (from_1.toNat ≤ to_2.toNat ∧ to_2.toNat ≤ r_0.words.length) <|
 (loopO (m68_1 r_0 from_1 to_2) (0, ([] : List Bytes))).bind fun e82 =>
 some e82
noncomputable def m161_1 (s1 : List Mark) (s2 : List Mark) (eq : Mark → Mark → Option Bool) (s41 : Nat) : Option ((Nat) ⊕ ((Unit) ⊕ Bool)) :=
 if (s41 : Int) < (s1.length : Int) then (
  (s1[s41]?).bind fun x76 =>
  (s2[s41]?).bind fun x85 =>
  (eq x76 x85).bind fun r96 =>
  if r96 then (
   some (.inl (s41 + 1)))
  else
  some (.inr (.inr false)))
 else
 some (.inr (.inl ()))
noncomputable def m161 (s1 : List Mark) (s2 : List Mark) (eq : Mark → Mark → Option Bool) : Option (Bool) :=
 if (s1.length : Int) ≠ (s2.length : Int) then (
  some false)
 else
 (loopO (m161_1 s1 s2 eq) 0).bind fun e37 => match e37 with
 | .inr z => some z
 | .inl t40 =>
 some true
noncomputable def m144 (r_0 : rules) (a_1 : List Mark) (b_2 : List Mark) : Option (Bool) :=
 (m161 a_1 b_2 (m79 r_0)).bind fun r11 =>
 some r11
noncomputable def m118 (d_0 : decided) (q_1 : Request) : Option (Bool) :=
 (m69 q_1).bind fun r24 =>
 (m68 d_0.report q_1.from_ r24).bind fun r27 =>
 (m54 d_0.rules.meanings r27).bind fun r37 =>
 (m54 d_0.rules.meanings q_1.put_).bind fun r47 =>
 (m144 d_0.rules r37 r47).bind fun r58 =>
 some r58
noncomputable def m146F : Nat → Request → Request → Option (Bool)
 | 0, _, _ => none
 | n_ + 1, q_0, o_1 =>
 ((
  if q_0.cut = 0 then (
   some (decide (o_1.cut = 0)))
  else
  some false
 ) : Option (Bool)).bind fun t41 =>
 if t41 then (
  some (decide (q_0.from_ = o_1.from_)))
 else
 if q_0.cut = 0 then (
  ((
   if o_1.from_ < q_0.from_ then (
    (m69 o_1).bind fun r104 =>
    some (decide (q_0.from_ < r104)))
   else
   some false
  ) : Option (Bool)).bind fun t99 =>
  some t99)
 else
 if o_1.cut = 0 then (
  (m146F n_ o_1 q_0).bind fun r119 =>
  some r119)
 else
 ((
  (m69 o_1).bind fun r137 =>
  if q_0.from_ < r137 then (
   (m69 q_0).bind fun r142 =>
   some (decide (o_1.from_ < r142)))
  else
  some false
 ) : Option (Bool)).bind fun t134 =>
 some t134
noncomputable def m146 (q_0 : Request) (o_1 : Request) : Option (Bool) := recO (fun n_ => m146F n_ q_0 o_1)
noncomputable def m162_1 (s_0 : List Request) (f_1 : Request → Option Bool) (s27 : Nat) : Option ((Nat) ⊕ ((Unit) ⊕ Int)) :=
 if (s27 : Int) < (s_0.length : Int) then (
  (s_0[s27]?).bind fun x54 =>
  (f_1 x54).bind fun r66 =>
  if r66 then (
   some (.inr (.inr (s27 : Int))))
  else
  some (.inl (s27 + 1)))
 else
 some (.inr (.inl ()))
noncomputable def m162 (s_0 : List Request) (f_1 : Request → Option Bool) : Option (Int) :=
 (loopO (m162_1 s_0 f_1) 0).bind fun e23 => match e23 with
 | .inr z => some z
 | .inl t26 =>
 some (-1)
noncomputable def m145 (s_0 : List Request) (f_1 : Request → Option Bool) : Option (Bool) :=
 (m162 s_0 f_1).bind fun r1 =>
 some (decide (0 ≤ r1))
noncomputable def m119 (d_0 : decided) (q_1 : Request) : Option (Bool) :=
 (m145 d_0.accepted (m146 q_1)).bind fun r26 =>
 some (!r26)
noncomputable def m90 (d_0 : decided) (q_1 : Request) : Option (Int) :=
 ((
  (m114 d_0 q_1).bind fun r97 =>
  if r97 then (
   (m115 d_0 q_1).bind fun r118 =>
   if r118 then (
    (m116 d_0 q_1).bind fun r139 =>
    if r139 then (
     (m117 d_0 q_1).bind fun r160 =>
     if r160 then (
      (m118 d_0 q_1).bind fun r181 =>
      if r181 then (
       (m119 d_0 q_1).bind fun r202 =>
       if r202 then (
        some 0)
       else
       some 6)
      else
      some 9)
     else
     some 11)
    else
    some 5)
   else
   some 1)
  else
  some 2
 ) : Option (Nat)).bind fun t82 =>
 some (t82 : Int)
noncomputable def m29_1 (requests : List Request) (s1197 : Nat × List Int) : Option ((Nat × List Int) ⊕ (List Int)) :=
 if (s1197.1 : Int) < (requests.length : Int) then (
  chk (s1197.2.length + 1 ≤ 1073741824) <|
  some (.inl ((s1197.1 + 1), (s1197.2 ++ [(s1197.1 : Int)]))))
 else
 some (.inr s1197.2)
noncomputable def m29_4 (s2995 : Nat × Nat × List Int) (requests : List Request) (s3835 : Int × List Int) : Option ((Int × List Int) ⊕ (List Int)) :=
 ((
  if (s2995.1 : Int) < s3835.1 then (
   chk (0 ≤ s3835.1) <|
   (s3835.2[s3835.1.toNat]?).bind fun x3868 =>
   chk (-9223372036854775808 ≤ (s3835.1 - 1) ∧ (s3835.1 - 1) ≤ 9223372036854775807) <|
   chk (0 ≤ (s3835.1 - 1)) <|
   (s3835.2[(s3835.1 - 1).toNat]?).bind fun x3876 =>
   (m88 x3868 x3876 requests).bind fun r3880 =>
   some (decide (r3880 < 0)))
  else
  some false
 ) : Option (Bool)).bind fun t3861 =>
 if t3861 then (
  chk (-9223372036854775808 ≤ (s3835.1 - 1) ∧ (s3835.1 - 1) ≤ 9223372036854775807) <|
  chk (0 ≤ (s3835.1 - 1)) <|
  (s3835.2[(s3835.1 - 1).toNat]?).bind fun x3913 =>
  chk (0 ≤ s3835.1) <|
  (s3835.2[s3835.1.toNat]?).bind fun x3919 =>
  ((s3835.2.set s3835.1.toNat x3913)[(s3835.1 - 1).toNat]?).bind fun x3924 =>
  some (.inl ((s3835.1 - 1), ((s3835.2.set s3835.1.toNat x3913).set ((s3835.1 - 1).toNat) x3919))))
 else
 some (.inr s3835.2)
noncomputable def m29_3 (s2995 : Nat × Nat × List Int) (requests : List Request) (s3635 : Nat × List Int) : Option ((Nat × List Int) ⊕ (List Int)) :=
 if (s3635.1 : Int) < (s2995.2.1 : Int) then (
  (loopO (m29_4 s2995 requests) ((s3635.1 : Int), s3635.2)).bind fun e3831 =>
  chk (-9223372036854775808 ≤ ((s3635.1 : Int) + 1) ∧ ((s3635.1 : Int) + 1) ≤ 9223372036854775807) <|
  some (.inl ((s3635.1 + 1), e3831)))
 else
 some (.inr s3635.2)
noncomputable def m29_2 (e1192 : List Int) (requests : List Request) (s2995 : Nat × Nat × List Int) : Option ((Nat × Nat × List Int) ⊕ (Nat × List Int)) :=
 if (s2995.2.1 : Int) ≤ (e1192.length : Int) then (
  ((
   chk (-9223372036854775808 ≤ ((s2995.1 : Int) + 1) ∧ ((s2995.1 : Int) + 1) ≤ 9223372036854775807) <|
   (loopO (m29_3 s2995 requests) ((s2995.1 + 1), s2995.2.2)).bind fun e3631 =>
   some e3631
  ) : Option (List Int)).bind fun t3423 =>
  chk (-9223372036854775808 ≤ ((s2995.2.1 : Int) + 20) ∧ ((s2995.2.1 : Int) + 20) ≤ 9223372036854775807) <|
  some (.inl (s2995.2.1, (s2995.2.1 + 20), t3423)))
 else
 some (.inr (s2995.1, s2995.2.2))
noncomputable def m29_6 (e2991 : Nat × List Int) (requests : List Request) (s4545 : Int × List Int) : Option ((Int × List Int) ⊕ (List Int)) :=
 ((
  if (e2991.1 : Int) < s4545.1 then (
   chk (0 ≤ s4545.1) <|
   (s4545.2[s4545.1.toNat]?).bind fun x4578 =>
   chk (-9223372036854775808 ≤ (s4545.1 - 1) ∧ (s4545.1 - 1) ≤ 9223372036854775807) <|
   chk (0 ≤ (s4545.1 - 1)) <|
   (s4545.2[(s4545.1 - 1).toNat]?).bind fun x4586 =>
   (m88 x4578 x4586 requests).bind fun r4590 =>
   some (decide (r4590 < 0)))
  else
  some false
 ) : Option (Bool)).bind fun t4571 =>
 if t4571 then (
  chk (-9223372036854775808 ≤ (s4545.1 - 1) ∧ (s4545.1 - 1) ≤ 9223372036854775807) <|
  chk (0 ≤ (s4545.1 - 1)) <|
  (s4545.2[(s4545.1 - 1).toNat]?).bind fun x4623 =>
  chk (0 ≤ s4545.1) <|
  (s4545.2[s4545.1.toNat]?).bind fun x4629 =>
  ((s4545.2.set s4545.1.toNat x4623)[(s4545.1 - 1).toNat]?).bind fun x4634 =>
  some (.inl ((s4545.1 - 1), ((s4545.2.set s4545.1.toNat x4623).set ((s4545.1 - 1).toNat) x4629))))
 else
 some (.inr s4545.2)
noncomputable def m29_5 (e1192 : List Int) (e2991 : Nat × List Int) (requests : List Request) (s4345 : Nat × List Int) : Option ((Nat × List Int) ⊕ (List Int)) :=
 if (s4345.1 : Int) < (e1192.length : Int) then (
  (loopO (m29_6 e2991 requests) ((s4345.1 : Int), s4345.2)).bind fun e4541 =>
  some (.inl ((s4345.1 + 1), e4541)))
 else
 some (.inr s4345.2)
noncomputable def m29_8 (e1192 : List Int) (s4663 : Int) (s4699 : Nat × Int) : Option ((Nat × Int) ⊕ (Nat)) :=
 if s4699.2 ≤ (e1192.length : Int) then (
  chk (-9223372036854775808 ≤ ((s4699.1 : Int) + s4663) ∧ ((s4699.1 : Int) + s4663) ≤ 9223372036854775807) <|
  none)
 else
 some (.inr s4699.1)
noncomputable def m29_7 (e1192 : List Int) (s4663 : Int) : Option ((Int) ⊕ (Unit)) :=
 if s4663 < (e1192.length : Int) then (
  chk (-9223372036854775808 ≤ (2 * s4663) ∧ (2 * s4663) ≤ 9223372036854775807) <|
  (loopO (m29_8 e1192 s4663) (0, (2 * s4663))).bind fun e4696 =>
  chk (-9223372036854775808 ≤ ((e4696 : Int) + s4663) ∧ ((e4696 : Int) + s4663) ≤ 9223372036854775807) <|
  if ((e4696 : Int) + s4663) < (e1192.length : Int) then (
   none)
  else
  chk (-9223372036854775808 ≤ (s4663 * 2) ∧ (s4663 * 2) ≤ 9223372036854775807) <|
  some (.inl (s4663 * 2)))
 else
 some (.inr ())
noncomputable def m29_9 (e1192 : List Int) (t1886 : List Int) (requests : List Request) (r_2 : Report) (r1117 : rules × Int) (s5024 : Nat × List Int × List Request × List Int) : Option ((Nat × List Int × List Request × List Int) ⊕ (List Int × List Request × List Int)) :=
 if (s5024.1 : Int) < (e1192.length : Int) then (
  (t1886[s5024.1]?).bind fun x5113 =>
  chk (0 ≤ x5113) <|
  (requests[x5113.toNat]?).bind fun x5119 =>
  (m90 (⟨r_2, r1117.1, s5024.2.2.1, s5024.2.1, s5024.2.2.2⟩ : decided) x5119).bind fun r5131 =>
  (s5024.2.2.2[x5113.toNat]?).bind fun x5135 =>
  ((s5024.2.2.2.set x5113.toNat r5131)[x5113.toNat]?).bind fun x5139 =>
  ((
   if x5139 = 0 then (
    chk (s5024.2.2.1.length + ([x5119] : List Request).length ≤ 1073741824) <|
    chk (s5024.2.1.length + ([x5113] : List Int).length ≤ 1073741824) <|
    some ((s5024.2.1 ++ ([x5113] : List Int)), (s5024.2.2.1 ++ ([x5119] : List Request))))
   else
   some (s5024.2.1, s5024.2.2.1)
  ) : Option (List Int × List Request)).bind fun t5177 =>
  some (.inl ((s5024.1 + 1), t5177.1, t5177.2, (s5024.2.2.2.set x5113.toNat r5131))))
 else
 some (.inr (s5024.2.1, s5024.2.2.1, s5024.2.2.2))
noncomputable def m29 (l_0 : Lexicon) (swaps : List Swap) (r_2 : Report) (requests : List Request) : Option (List Int × Int) :=
 ((
  (m51 l_0 swaps).bind fun r1117 =>
  if r1117.2 ≠ 0 then (
   some (.inl r1117.2))
  else
  (m61 r_2).bind fun r1139 =>
  if r1139 ≠ 0 then (
   some (.inl r1139))
  else
  if 20 < (requests.length : Int) then (
   some (.inl 3))
  else
  chk (requests.length ≤ 1073741824) <|
  (loopO (m29_1 requests) (0, ([] : List Int))).bind fun e1192 =>
  ((
   ((
    (loopO (m29_2 e1192 requests) (0, 20, e1192)).bind fun e2991 =>
    ((
     chk (-9223372036854775808 ≤ ((e2991.1 : Int) + 1) ∧ ((e2991.1 : Int) + 1) ≤ 9223372036854775807) <|
     (loopO (m29_5 e1192 e2991 requests) ((e2991.1 + 1), e2991.2)).bind fun e4341 =>
     some e4341
    ) : Option (List Int)).bind fun t4137 =>
    (loopO (m29_7 e1192) 20).bind fun e4660 =>
    some t4137
   ) : Option (List Int)).bind fun t2553 =>
   some t2553
  ) : Option (List Int)).bind fun t1886 =>
  (loopO (m29_9 e1192 t1886 requests r_2 r1117) (0, ([] : List Int), ([] : List Request), (List.replicate requests.length (0 : Int)))).bind fun e5013 =>
  some (.inr (e5013.1, e5013.2.1, r_2.words, r1117.1.meanings, r1117.1.swaps, e5013.2.2))
 ) : Option ((Int) ⊕ (List Int × List Request × List Said × (List (Bytes × Mark)) × List Swap × List Int))).bind fun t1082 => match t1082 with
 | .inl t1085 => (
  if t1085 ≠ 0 then (
   some (([] : List Int), t1085))
  else
  none)
 | .inr t1086 => (
  some (t1086.2.2.2.2.2, 0))
noncomputable def m41_1 (a_0 : List Mark) (b_1 : List Mark) (s40 : Nat) : Option ((Nat) ⊕ ((Unit) ⊕ Bool)) :=
 if (s40 : Int) < (a_0.length : Int) then (
  ((
   (a_0[s40]?).bind fun x98 =>
   (b_1[s40]?).bind fun x106 =>
   if x98.kind ≠ x106.kind then (
    some true)
   else
   some (decide (x98.value ≠ x106.value))
  ) : Option (Bool)).bind fun t95 =>
  if t95 then (
   some (.inr (.inr false)))
  else
  some (.inl (s40 + 1)))
 else
 some (.inr (.inl ()))
noncomputable def m41 (a_0 : List Mark) (b_1 : List Mark) : Option (Bool) :=
 if (a_0.length : Int) ≠ (b_1.length : Int) then (
  some false)
 else
 (loopO (m41_1 a_0 b_1) 0).bind fun e36 => match e36 with
 | .inr z => some z
 | .inl t39 =>
 some true
noncomputable def m50_1 (a_0 : List Int) (b_1 : List Int) (s35 : Nat) : Option ((Nat) ⊕ ((Unit) ⊕ Bool)) :=
 if (s35 : Int) < (a_0.length : Int) then (
  (a_0[s35]?).bind fun x64 =>
  (b_1[s35]?).bind fun x72 =>
  if x64 ≠ x72 then (
   some (.inr (.inr false)))
  else
  some (.inl (s35 + 1)))
 else
 some (.inr (.inl ()))
noncomputable def m50 (a_0 : List Int) (b_1 : List Int) : Option (Bool) :=
 if (a_0.length : Int) ≠ (b_1.length : Int) then (
  some false)
 else
 (loopO (m50_1 a_0 b_1) 0).bind fun e31 => match e31 with
 | .inr z => some z
 | .inl t34 =>
 some true
noncomputable def m17  : Option (Bool) :=
 (m48).bind fun r1 =>
 (m26 r1.1 ([[83, 109, 121, 116, 104], [100, 105, 100], [110, 111, 116], [112, 97, 121], [116, 101, 110], [48, 48, 55], [56]] : List Bytes)).bind fun r28 =>
 (m18 r1.1 r1.2 ([[110, 111, 116], [116, 101, 110]] : List Bytes) ([[110, 101, 118, 101, 114], [49, 50]] : List Bytes)).bind fun r45 =>
 (m49).bind fun r48 =>
 (m29 r1.1 r1.2 r48.1 r48.2).bind fun r64 =>
 ((
  if r28.2 = 0 then (
   (m41 r28.1 ([(⟨2, 0⟩ : Mark), (⟨3, 0⟩ : Mark), (⟨1, 10⟩ : Mark), (⟨1, 8⟩ : Mark)] : List Mark)).bind fun r112 =>
   if r112 then (
    if r45.2 = 0 then (
     if r45.1 = 0 then (
      if r64.2 = 0 then (
       (m50 r64.1 ([0, 0, 5, 11, 9] : List Int)).bind fun r128 =>
       some r128)
      else
      some false)
     else
     some false)
    else
    some false)
   else
   some false)
  else
  some false
 ) : Option (Bool)).bind fun t102 =>
 some t102
noncomputable def m21 (l_0 : List Bytes) : Option (List Bytes) :=
 chk (([] : List Bytes).length + l_0.length ≤ 1073741824) <|
 some (([] : List Bytes) ++ l_0)
noncomputable def m19_1 (l_0 : Lexicon) (s108 : Nat × List Number) : Option ((Nat × List Number) ⊕ (List Number)) :=
 if (s108.1 : Int) < (l_0.numbers.length : Int) then (
  (l_0.numbers[s108.1]?).bind fun x140 =>
  chk (s108.2.length + ([x140] : List Number).length ≤ 1073741824) <|
  some (.inl ((s108.1 + 1), (s108.2 ++ ([x140] : List Number)))))
 else
 some (.inr s108.2)
noncomputable def m19_2 (l_0 : Lexicon) (s322 : Nat × List (List Bytes)) : Option ((Nat × List (List Bytes)) ⊕ (List (List Bytes))) :=
 if (s322.1 : Int) < (l_0.names.length : Int) then (
  (l_0.names[s322.1]?).bind fun x377 =>
  (m21 x377).bind fun r389 =>
  chk (s322.2.length + ([r389] : List (List Bytes)).length ≤ 1073741824) <|
  some (.inl ((s322.1 + 1), (s322.2 ++ ([r389] : List (List Bytes))))))
 else
 some (.inr s322.2)
noncomputable def m19 (l_0 : Lexicon) : Option (Lexicon) :=
 (m21 l_0.nots).bind fun r14 =>
 (loopO (m19_1 l_0) (0, ([] : List Number))).bind fun e103 =>
 (loopO (m19_2 l_0) (0, ([] : List (List Bytes)))).bind fun e314 =>
 some (⟨e103, e314, r14⟩ : Lexicon)
noncomputable def m20_1 (l_0 : List Swap) (s87 : Nat × List Swap) : Option ((Nat × List Swap) ⊕ (List Swap)) :=
 if (s87.1 : Int) < (l_0.length : Int) then (
  (l_0[s87.1]?).bind fun x119 =>
  chk (s87.2.length + ([x119] : List Swap).length ≤ 1073741824) <|
  some (.inl ((s87.1 + 1), (s87.2 ++ ([x119] : List Swap)))))
 else
 some (.inr s87.2)
noncomputable def m20 (l_0 : List Swap) : Option (List Swap) :=
 (loopO (m20_1 l_0) (0, ([] : List Swap))).bind fun e82 =>
 some e82
noncomputable def m28 (n_0 : Int) (low : Int) (high : Int) : Option (Bool) :=
 ((
  if low ≤ n_0 then (
   some (decide (n_0 ≤ high)))
  else
  some false
 ) : Option (Bool)).bind fun t4 =>
 some t4
noncomputable def m60_1 (s_0 : Bytes) (s21 : Nat) : Option ((Nat) ⊕ ((Unit) ⊕ Bool)) :=
 if (s21 : Int) < (s_0.length : Int) then (
  ((
   (s_0[s21]?).bind fun x49 =>
   if (x49.toNat : Int) < 33 then (
    some true)
   else
   some (decide (126 < (x49.toNat : Int)))
  ) : Option (Bool)).bind fun t46 =>
  if t46 then (
   some (.inr (.inr false)))
  else
  chk (-9223372036854775808 ≤ ((s21 : Int) + 1) ∧ ((s21 : Int) + 1) ≤ 9223372036854775807) <|
  some (.inl (s21 + 1)))
 else
 some (.inr (.inl ()))
noncomputable def m60 (s_0 : Bytes) : Option (Bool) :=
 (loopO (m60_1 s_0) 0).bind fun e17 => match e17 with
 | .inr z => some z
 | .inl t20 =>
 (m28 (s_0.length : Int) 1 32).bind fun r64 =>
 some r64
noncomputable def m55_1 (l_0 : List Bytes) (s23 : Nat) : Option ((Nat) ⊕ ((Unit) ⊕ Bool)) :=
 if (s23 : Int) < (l_0.length : Int) then (
  (l_0[s23]?).bind fun x46 =>
  (m60 x46).bind fun r54 =>
  if r54 then (
   some (.inl (s23 + 1)))
  else
  some (.inr (.inr false)))
 else
 some (.inr (.inl ()))
noncomputable def m55 (l_0 : List Bytes) (most : Int) : Option (Bool) :=
 (loopO (m55_1 l_0) 0).bind fun e19 => match e19 with
 | .inr z => some z
 | .inl t22 =>
 some (decide ((l_0.length : Int) ≤ most))
noncomputable def m34_1 (l_0 : Lexicon) (s139 : Nat × List Bytes) : Option ((Nat × List Bytes) ⊕ ((List Bytes) ⊕ Int)) :=
 if (s139.1 : Int) < (l_0.numbers.length : Int) then (
  ((
   (l_0.numbers[s139.1]?).bind fun x204 =>
   (m60 x204.text).bind fun r212 =>
   if r212 then (
    (m28 x204.value 0 999999999).bind fun r217 =>
    some (!r217))
   else
   some true
  ) : Option (Bool)).bind fun t201 =>
  if t201 then (
   some (.inr (.inr 1)))
  else
  (l_0.numbers[s139.1]?).bind fun x227 =>
  chk (s139.2.length + 1 ≤ 1073741824) <|
  some (.inl ((s139.1 + 1), (s139.2 ++ [x227.text]))))
 else
 some (.inr (.inl s139.2))
noncomputable def m34_2 (l_0 : Lexicon) (s378 : Nat × List Bytes) : Option ((Nat × List Bytes) ⊕ ((List Bytes) ⊕ Int)) :=
 if (s378.1 : Int) < (l_0.names.length : Int) then (
  ((
   (l_0.names[s378.1]?).bind fun x448 =>
   if (x448.length : Int) = 0 then (
    some true)
   else
   (m55 x448 5).bind fun r463 =>
   some (!r463)
  ) : Option (Bool)).bind fun t445 =>
  if t445 then (
   some (.inr (.inr 1)))
  else
  (l_0.names[s378.1]?).bind fun x472 =>
  chk (s378.2.length + x472.length ≤ 1073741824) <|
  some (.inl ((s378.1 + 1), (s378.2 ++ x472))))
 else
 some (.inr (.inl s378.2))
noncomputable def m34_4 (s546 : Nat) (t375 : List Bytes) (l_0 : Lexicon) (s594 : Nat) : Option ((Nat) ⊕ ((Unit) ⊕ ((Nat) ⊕ ((Unit) ⊕ Int)))) :=
 if (s594 : Int) < (s546 : Int) then (
  ((t375 ++ l_0.nots)[s546]?).bind fun x614 =>
  ((t375 ++ l_0.nots)[s594]?).bind fun x618 =>
  if x614 = x618 then (
   some (.inr (.inr (.inr (.inr 6)))))
  else
  chk (-9223372036854775808 ≤ ((s594 : Int) + 1) ∧ ((s594 : Int) + 1) ≤ 9223372036854775807) <|
  some (.inl (s594 + 1)))
 else
 some (.inr (.inl ()))
noncomputable def m34_3 (t375 : List Bytes) (l_0 : Lexicon) (s546 : Nat) : Option ((Nat) ⊕ ((Unit) ⊕ Int)) :=
 if (s546 : Int) < ((t375 ++ l_0.nots).length : Int) then (
  (loopO (m34_4 s546 t375 l_0) 0).bind fun e590 => match e590 with
  | .inr z => some z
  | .inl t593 =>
  some (.inl (s546 + 1)))
 else
 some (.inr (.inl ()))
noncomputable def m34 (l_0 : Lexicon) : Option (Int) :=
 (loopO (m34_1 l_0) (0, ([] : List Bytes))).bind fun e133 => match e133 with
 | .inr z => some z
 | .inl t136 =>
 (loopO (m34_2 l_0) (0, t136)).bind fun e372 => match e372 with
 | .inr z => some z
 | .inl t375 =>
 ((
  (m55 l_0.nots 40).bind fun r501 =>
  if r501 then (
   if 40 < (l_0.numbers.length : Int) then (
    some true)
   else
   some (decide (40 < (l_0.names.length : Int))))
  else
  some true
 ) : Option (Bool)).bind fun t498 =>
 if t498 then (
  some 1)
 else
 chk (t375.length + l_0.nots.length ≤ 1073741824) <|
 (loopO (m34_3 t375 l_0) 0).bind fun e542 => match e542 with
 | .inr z => some z
 | .inl t545 =>
 some 0
noncomputable def m27_1 (l_0 : List Swap) (s51 : Nat) : Option ((Nat) ⊕ ((Unit) ⊕ Int)) :=
 if (s51 : Int) < (l_0.length : Int) then (
  ((
   (l_0[s51]?).bind fun x131 =>
   if x131.kind ≠ 1 then (
    if x131.kind ≠ 2 then (
     some true)
    else
    (m28 x131.old_ 0 999999999).bind fun r144 =>
    if r144 then (
     (m28 x131.new_ 0 999999999).bind fun r149 =>
     some (!r149))
    else
    some true)
   else
   (m28 x131.old_ 0 999999999).bind fun r154 =>
   if r154 then (
    (m28 x131.new_ 0 999999999).bind fun r159 =>
    some (!r159))
   else
   some true
  ) : Option (Bool)).bind fun t128 =>
  if t128 then (
   some (.inr (.inr 1)))
  else
  some (.inl (s51 + 1)))
 else
 some (.inr (.inl ()))
noncomputable def m27 (l_0 : List Swap) : Option (Int) :=
 if 20 < (l_0.length : Int) then (
  some 3)
 else
 (loopO (m27_1 l_0) 0).bind fun e47 => match e47 with
 | .inr z => some z
 | .inl t50 =>
 some 0
noncomputable def m22 (l_0 : Lexicon) (swaps : List Swap) : Option (Int) :=
 (m34 l_0).bind fun r13 =>
 if r13 ≠ 0 then (
  some r13)
 else
 (m27 swaps).bind fun r22 =>
 some r22
noncomputable def m23 (l_0 : List Bytes) : Option (Int) :=
 if 80 < (l_0.length : Int) then (
  some 3)
 else
 (m55 l_0 80).bind fun r7 =>
 if r7 then (
  some 0)
 else
 some 1
noncomputable def m81_1 (s_0 : Bytes) (s88 : Nat × Int) : Option ((Nat × Int) ⊕ ((Int) ⊕ Int)) :=
 if (s88.1 : Int) < (s_0.length : Int) then (
  ((
   (s_0[s88.1]?).bind fun x125 =>
   if (x125.toNat : Int) < 48 then (
    some true)
   else
   some (decide (57 < (x125.toNat : Int)))
  ) : Option (Bool)).bind fun t122 =>
  if t122 then (
   some (.inr (.inr (-1))))
  else
  chk (-9223372036854775808 ≤ (10 * s88.2) ∧ (10 * s88.2) ≤ 9223372036854775807) <|
  (s_0[s88.1]?).bind fun x139 =>
  chk (0 ≤ ((x139.toNat : Int) - 48) ∧ ((x139.toNat : Int) - 48) ≤ 255) <|
  chk (-9223372036854775808 ≤ ((10 * s88.2) + ((x139.toNat : Int) - 48)) ∧ ((10 * s88.2) + ((x139.toNat : Int) - 48)) ≤ 9223372036854775807) <|
  chk (-9223372036854775808 ≤ ((s88.1 : Int) + 1) ∧ ((s88.1 : Int) + 1) ≤ 9223372036854775807) <|
  some (.inl ((s88.1 + 1), ((10 * s88.2) + ((x139.toNat : Int) - 48)))))
 else
 some (.inr (.inl s88.2))
noncomputable def m81 (s_0 : Bytes) : Option (Int) :=
 ((
  if (s_0.length : Int) < 1 then (
   some true)
  else
  if 9 < (s_0.length : Int) then (
   some true)
  else
  (s_0[0]?).bind fun x22 =>
  if (x22.toNat : Int) = 48 then (
   some (decide (1 < (s_0.length : Int))))
  else
  some false
 ) : Option (Bool)).bind fun t13 =>
 if t13 then (
  some (-1))
 else
 (loopO (m81_1 s_0) (0, 0)).bind fun e84 => match e84 with
 | .inr z => some z
 | .inl t87 =>
 some t87
noncomputable def m57_1 (l_0 : Lexicon) (s_1 : Bytes) (s33 : Nat) : Option ((Nat) ⊕ ((Unit) ⊕ Mark)) :=
 if (s33 : Int) < (l_0.numbers.length : Int) then (
  (l_0.numbers[s33]?).bind fun x53 =>
  if x53.text = s_1 then (
   some (.inr (.inr (⟨1, x53.value⟩ : Mark))))
  else
  some (.inl (s33 + 1)))
 else
 some (.inr (.inl ()))
noncomputable def m57_3 (l_0 : Lexicon) (s104 : Nat) (s_1 : Bytes) (s172 : Nat) : Option ((Nat) ⊕ ((Unit) ⊕ ((Nat) ⊕ ((Unit) ⊕ Mark)))) :=
 (l_0.names[s104]?).bind fun x176 =>
 if (s172 : Int) < (x176.length : Int) then (
  (x176[s172]?).bind fun x204 =>
  if x204 = s_1 then (
   some (.inr (.inr (.inr (.inr (⟨2, (s104 : Int)⟩ : Mark))))))
  else
  some (.inl (s172 + 1)))
 else
 some (.inr (.inl ()))
noncomputable def m57_2 (l_0 : Lexicon) (s_1 : Bytes) (s104 : Nat) : Option ((Nat) ⊕ ((Unit) ⊕ Mark)) :=
 if (s104 : Int) < (l_0.names.length : Int) then (
  (loopO (m57_3 l_0 s104 s_1) 0).bind fun e168 => match e168 with
  | .inr z => some z
  | .inl t171 =>
  some (.inl (s104 + 1)))
 else
 some (.inr (.inl ()))
noncomputable def m57_4 (l_0 : Lexicon) (s_1 : Bytes) (s239 : Nat) : Option ((Nat) ⊕ ((Unit) ⊕ Mark)) :=
 if (s239 : Int) < (l_0.nots.length : Int) then (
  (l_0.nots[s239]?).bind fun x259 =>
  if x259 = s_1 then (
   some (.inr (.inr (⟨3, 0⟩ : Mark))))
  else
  some (.inl (s239 + 1)))
 else
 some (.inr (.inl ()))
noncomputable def m57 (l_0 : Lexicon) (s_1 : Bytes) : Option (Mark) :=
 (loopO (m57_1 l_0 s_1) 0).bind fun e29 => match e29 with
 | .inr z => some z
 | .inl t32 =>
 (loopO (m57_2 l_0 s_1) 0).bind fun e100 => match e100 with
 | .inr z => some z
 | .inl t103 =>
 (loopO (m57_4 l_0 s_1) 0).bind fun e235 => match e235 with
 | .inr z => some z
 | .inl t238 =>
 (m81 s_1).bind fun r274 =>
 if 0 ≤ r274 then (
  some (⟨1, r274⟩ : Mark))
 else
 some (⟨0, 0⟩ : Mark)
noncomputable def m25_1 (texts : List Bytes) (l_0 : Lexicon) (s116 : Nat × List Mark) : Option ((Nat × List Mark) ⊕ (List Mark)) :=
 if (s116.1 : Int) < (texts.length : Int) then (
  (texts[s116.1]?).bind fun x151 =>
  (m57 l_0 x151).bind fun r159 =>
  ((
   if r159.kind ≠ 0 then (
    chk (s116.2.length + 1 ≤ 1073741824) <|
    some (s116.2 ++ [r159]))
   else
   some s116.2
  ) : Option (List Mark)).bind fun t172 =>
  some (.inl ((s116.1 + 1), t172)))
 else
 some (.inr s116.2)
noncomputable def m25 (l_0 : Lexicon) (texts : List Bytes) : Option (List Mark) :=
 (loopO (m25_1 texts l_0) (0, ([] : List Mark))).bind fun e111 =>
 some e111
noncomputable def m56_1 (swaps : List Swap) (a_1 : Mark) (b_2 : Mark) (s45 : Nat) : Option ((Nat) ⊕ ((Unit) ⊕ Bool)) :=
 if (s45 : Int) < (swaps.length : Int) then (
  (swaps[s45]?).bind fun x78 =>
  ((
   if a_1.kind = b_2.kind then (
    if x78.kind = a_1.kind then (
     if x78.old_ = a_1.value then (
      some (decide (x78.new_ = b_2.value)))
     else
     some false)
    else
    some false)
   else
   some false
  ) : Option (Bool)).bind fun t98 =>
  if t98 then (
   some (.inr (.inr true)))
  else
  some (.inl (s45 + 1)))
 else
 some (.inr (.inl ()))
noncomputable def m56 (swaps : List Swap) (a_1 : Mark) (b_2 : Mark) : Option (Bool) :=
 if a_1 = b_2 then (
  some true)
 else
 (loopO (m56_1 swaps a_1 b_2) 0).bind fun e41 => match e41 with
 | .inr z => some z
 | .inl t44 =>
 some false
noncomputable def m24_2 (b_2 : List Mark) (s481 : Nat × List (List Int)) (a_1 : List Mark) (swaps : List Swap) (s942 : Nat × List (List Int)) : Option ((Nat × List (List Int)) ⊕ (List (List Int))) :=
 if (s942.1 : Int) ≤ (b_2.length : Int) then (
  ((
   ((
    if (s481.1 : Int) = 0 then (
     some true)
    else
    some (decide ((s942.1 : Int) = 0))
   ) : Option (Bool)).bind fun t1052 =>
   if t1052 then (
    (s942.2[s481.1]?).bind fun x1077 =>
    chk (-9223372036854775808 ≤ ((s481.1 : Int) + (s942.1 : Int)) ∧ ((s481.1 : Int) + (s942.1 : Int)) ≤ 9223372036854775807) <|
    (x1077[s942.1]?).bind fun x1086 =>
    some (s942.2.set s481.1 (x1077.set s942.1 ((s481.1 : Int) + (s942.1 : Int)))))
   else
   chk (0 ≤ ((s481.1 : Int) - 1)) <|
   (s942.2[((s481.1 : Int) - 1).toNat]?).bind fun x1094 =>
   chk (0 ≤ ((s942.1 : Int) - 1)) <|
   (x1094[((s942.1 : Int) - 1).toNat]?).bind fun x1103 =>
   chk (-9223372036854775808 ≤ (x1103 + 1) ∧ (x1103 + 1) ≤ 9223372036854775807) <|
   (a_1[((s481.1 : Int) - 1).toNat]?).bind fun x1109 =>
   (b_2[((s942.1 : Int) - 1).toNat]?).bind fun x1117 =>
   (m56 swaps x1109 x1117).bind fun r1126 =>
   ((
    if r1126 then (
     chk (-9223372036854775808 ≤ ((x1103 + 1) - 1) ∧ ((x1103 + 1) - 1) ≤ 9223372036854775807) <|
     some ((x1103 + 1) - 1))
    else
    some (x1103 + 1)
   ) : Option (Int)).bind fun t1134 =>
   (s942.2[s481.1]?).bind fun x1142 =>
   (x1094[s942.1]?).bind fun x1149 =>
   chk (-9223372036854775808 ≤ (x1149 + 1) ∧ (x1149 + 1) ≤ 9223372036854775807) <|
   (x1142[((s942.1 : Int) - 1).toNat]?).bind fun x1154 =>
   chk (-9223372036854775808 ≤ (x1154 + 1) ∧ (x1154 + 1) ≤ 9223372036854775807) <|
   (x1142[s942.1]?).bind fun x1161 =>
   some (s942.2.set s481.1 (x1142.set s942.1 (min (min t1134 (x1149 + 1)) (x1154 + 1))))
  ) : Option (List (List Int))).bind fun t1042 =>
  chk (-9223372036854775808 ≤ ((s942.1 : Int) + 1) ∧ ((s942.1 : Int) + 1) ≤ 9223372036854775807) <|
  some (.inl ((s942.1 + 1), t1042)))
 else
 some (.inr s942.2)
noncomputable def m24_1 (a_1 : List Mark) (b_2 : List Mark) (swaps : List Swap) (s481 : Nat × List (List Int)) : Option ((Nat × List (List Int)) ⊕ (List (List Int))) :=
 if (s481.1 : Int) ≤ (a_1.length : Int) then (
  chk (-9223372036854775808 ≤ ((b_2.length : Int) + 1) ∧ ((b_2.length : Int) + 1) ≤ 9223372036854775807) <|
  chk (((b_2.length : Int) + 1).toNat ≤ 1073741824) <|
  (s481.2[s481.1]?).bind fun x722 =>
  (loopO (m24_2 b_2 s481 a_1 swaps) (0, (s481.2.set s481.1 (List.replicate (((b_2.length : Int) + 1).toNat) (0 : Int))))).bind fun e935 =>
  chk (-9223372036854775808 ≤ ((s481.1 : Int) + 1) ∧ ((s481.1 : Int) + 1) ≤ 9223372036854775807) <|
  some (.inl ((s481.1 + 1), e935)))
 else
 some (.inr s481.2)
noncomputable def m24 (swaps : List Swap) (a_1 : List Mark) (b_2 : List Mark) : Option (Int) :=
 chk (-9223372036854775808 ≤ ((a_1.length : Int) + 1) ∧ ((a_1.length : Int) + 1) ≤ 9223372036854775807) <|
 chk (((a_1.length : Int) + 1).toNat ≤ 1073741824) <|
 (loopO (m24_1 a_1 b_2 swaps) (0, (List.replicate (((a_1.length : Int) + 1).toNat) ([] : List Int)))).bind fun e474 =>
 (e474[a_1.length]?).bind fun x1171 =>
 (x1171[b_2.length]?).bind fun x1178 =>
 some x1178
noncomputable def m3 (l_0 : Lexicon) (swaps : List Swap) (a_2 : List Bytes) (b_3 : List Bytes) : Option (Bool) :=
 ((
  (m15 l_0 swaps).bind fun r31 =>
  if r31 then (
   (m16 a_2 90).bind fun r36 =>
   if r36 then (
    (m16 b_3 90).bind fun r41 =>
    some (!r41))
   else
   some true)
  else
  some true
 ) : Option (Bool)).bind fun t28 =>
 if t28 then (
  (m17).bind fun r54 =>
  some r54)
 else
 (m19 l_0).bind fun r58 =>
 (m20 swaps).bind fun r74 =>
 (m21 a_2).bind fun r81 =>
 (m21 b_3).bind fun r88 =>
 (m18 r58 r74 r81 r88).bind fun r95 =>
 (m22 l_0 swaps).bind fun r98 =>
 ((
  if r98 = 0 then (
   (m23 a_2).bind fun r112 =>
   some r112)
  else
  some r98
 ) : Option (Int)).bind fun t107 =>
 ((
  if t107 = 0 then (
   (m23 b_3).bind fun r127 =>
   some r127)
  else
  some t107
 ) : Option (Int)).bind fun t122 =>
 ((
  if r98 = 0 then (
   if 80 < (a_2.length : Int) then (
    some true)
   else
   some (decide (80 < (b_3.length : Int))))
  else
  some false
 ) : Option (Bool)).bind fun t137 =>
 ((
  if t137 then (
   some 3)
  else
  some t122
 ) : Option (Int)).bind fun t149 =>
 if t149 ≠ 0 then (
  ((
   if r95.2 = t149 then (
    if r95.1 = 0 then (
     (m17).bind fun r186 =>
     some r186)
    else
    some false)
   else
   some false
  ) : Option (Bool)).bind fun t179 =>
  some t179)
 else
 ((
  if r95.2 = 0 then (
   (m25 l_0 a_2).bind fun r231 =>
   (m25 l_0 b_3).bind fun r241 =>
   (m24 swaps r231 r241).bind fun r251 =>
   if r95.1 = r251 then (
    (m17).bind fun r257 =>
    some r257)
   else
   some false)
  else
  some false
 ) : Option (Bool)).bind fun t226 =>
 some t226
noncomputable def m37_1 (r_0 : Report) (s36 : Nat) : Option ((Nat) ⊕ ((Unit) ⊕ Bool)) :=
 if (s36 : Int) < (r_0.words.length : Int) then (
  ((
   (r_0.words[s36]?).bind fun x86 =>
   (m60 x86.text).bind fun r94 =>
   if r94 then (
    (m28 x86.speaker 0 999).bind fun r99 =>
    some (!r99))
   else
   some true
  ) : Option (Bool)).bind fun t83 =>
  if t83 then (
   some (.inr (.inr false)))
  else
  some (.inl (s36 + 1)))
 else
 some (.inr (.inl ()))
noncomputable def m37 (r_0 : Report) : Option (Bool) :=
 (loopO (m37_1 r_0) 0).bind fun e32 => match e32 with
 | .inr z => some z
 | .inl t35 =>
 ((
  if (r_0.words.length : Int) ≤ 80 then (
   (m28 r_0.out 0 100000).bind fun r127 =>
   if r127 then (
    (m28 r_0.within 0 100000).bind fun r132 =>
    some r132)
   else
   some false)
  else
  some false
 ) : Option (Bool)).bind fun t122 =>
 some t122
noncomputable def m31_1 (r_0 : Report) (s95 : Nat × List Said) : Option ((Nat × List Said) ⊕ (List Said)) :=
 if (s95.1 : Int) < (r_0.words.length : Int) then (
  (r_0.words[s95.1]?).bind fun x127 =>
  chk (s95.2.length + ([x127] : List Said).length ≤ 1073741824) <|
  some (.inl ((s95.1 + 1), (s95.2 ++ ([x127] : List Said)))))
 else
 some (.inr s95.2)
noncomputable def m31 (r_0 : Report) : Option (Report) :=
 (loopO (m31_1 r_0) (0, ([] : List Said))).bind fun e90 =>
 some (⟨e90, r_0.out, r_0.within⟩ : Report)
noncomputable def m32_1 (l_0 : List Request) (s173 : Nat × List Request) : Option ((Nat × List Request) ⊕ (List Request)) :=
 if (s173.1 : Int) < (l_0.length : Int) then (
  (l_0[s173.1]?).bind fun x232 =>
  (m21 x232.put_).bind fun r247 =>
  chk (s173.2.length + ([(⟨x232.by_, x232.minute, x232.from_, x232.cut, r247⟩ : Request)] : List Request).length ≤ 1073741824) <|
  some (.inl ((s173.1 + 1), (s173.2 ++ ([(⟨x232.by_, x232.minute, x232.from_, x232.cut, r247⟩ : Request)] : List Request)))))
 else
 some (.inr s173.2)
noncomputable def m32 (l_0 : List Request) : Option (List Request) :=
 (loopO (m32_1 l_0) (0, ([] : List Request))).bind fun e165 =>
 some e165
noncomputable def m36 (r_0 : Report) : Option (Int) :=
 (m61 r_0).bind fun r7 =>
 some r7
noncomputable def m47_1 (to_2 : Int) (r_0 : Report) (s81 : Int × List Bytes) : Option ((Int × List Bytes) ⊕ (List Bytes)) :=
 if s81.1 < to_2 then (
  chk (0 ≤ s81.1) <|
  (r_0.words[s81.1.toNat]?).bind fun x109 =>
  chk (s81.2.length + 1 ≤ 1073741824) <|
  chk (-9223372036854775808 ≤ (s81.1 + 1) ∧ (s81.1 + 1) ≤ 9223372036854775807) <|
  some (.inl ((s81.1 + 1), (s81.2 ++ [x109.text]))))
 else
 some (.inr s81.2)
noncomputable def m47 (r_0 : Report) (from_1 : Int) (to_2 : Int) : Option (List Bytes) :=
 (loopO (m47_1 to_2 r_0) (from_1, ([] : List Bytes))).bind fun e76 =>
 some e76
noncomputable def m94_1 (a_1 : List Mark) (b_2 : List Mark) (swaps : List Swap) (s38 : Nat) : Option ((Nat) ⊕ ((Unit) ⊕ Bool)) :=
 if (s38 : Int) < (a_1.length : Int) then (
  (a_1[s38]?).bind fun x70 =>
  (b_2[s38]?).bind fun x78 =>
  (m56 swaps x70 x78).bind fun r87 =>
  if r87 then (
   some (.inl (s38 + 1)))
  else
  some (.inr (.inr false)))
 else
 some (.inr (.inl ()))
noncomputable def m94 (swaps : List Swap) (a_1 : List Mark) (b_2 : List Mark) : Option (Bool) :=
 if (a_1.length : Int) ≠ (b_2.length : Int) then (
  some false)
 else
 (loopO (m94_1 a_1 b_2 swaps) 0).bind fun e34 => match e34 with
 | .inr z => some z
 | .inl t37 =>
 some true
end T4
namespace T4
open Go.Proofs
abbrev C100 := @Tryz.call100
abbrev C101 := @Tryz.call101
abbrev C102 := @Tryz.call102
abbrev C103 := @Tryz.call103
abbrev C104 := @Tryz.call104
abbrev C105 := @Tryz.call105
abbrev C106 := @Tryz.call106
abbrev C107 := @Tryz.call107
abbrev C108 := @Tryz.call108
abbrev C109 := @Tryz.call109
abbrev C110 := @Tryz.call110
abbrev C111 := @Tryz.call111
abbrev C112 := @Tryz.call112
abbrev C113 := @Tryz.call113
abbrev C114 := @Tryz.call114
abbrev C115 := @Tryz.call115
abbrev C116 := @Tryz.call116
abbrev C117 := @Tryz.call117
abbrev C118 := @Tryz.call118
abbrev C119 := @Tryz.call119
abbrev C120 := @Tryz.call120
abbrev C121 := @Tryz.call121
abbrev C122 := @Tryz.call122
abbrev C132 := @Tryz.call132
abbrev C133 := @Tryz.call133
abbrev C134 := @Tryz.call134
abbrev C135 := @Tryz.call135
abbrev C136 := @Tryz.call136
abbrev C137 := @Tryz.call137
abbrev C141 := @Tryz.call141
abbrev C143 := @Tryz.call143
abbrev C144 := @Tryz.call144
abbrev C145 := @Tryz.call145
abbrev C146 := @Tryz.call146
abbrev C147 := @Tryz.call147
abbrev C15 := @Tryz.call15
abbrev C153 := @Tryz.call153
abbrev C16 := @Tryz.call16
abbrev C161 := @Tryz.call161
abbrev C162 := @Tryz.call162
abbrev C17 := @Tryz.call17
abbrev C18 := @Tryz.call18
abbrev C19 := @Tryz.call19
abbrev C20 := @Tryz.call20
abbrev C21 := @Tryz.call21
abbrev C22 := @Tryz.call22
abbrev C23 := @Tryz.call23
abbrev C24 := @Tryz.call24
abbrev C25 := @Tryz.call25
abbrev C26 := @Tryz.call26
abbrev C27 := @Tryz.call27
abbrev C28 := @Tryz.call28
abbrev C29 := @Tryz.call29
abbrev C34 := @Tryz.call34
abbrev C41 := @Tryz.call41
abbrev C48 := @Tryz.call48
abbrev C49 := @Tryz.call49
abbrev C50 := @Tryz.call50
abbrev C51 := @Tryz.call51
abbrev C52 := @Tryz.call52
abbrev C53 := @Tryz.call53
abbrev C54 := @Tryz.call54
abbrev C55 := @Tryz.call55
abbrev C56 := @Tryz.call56
abbrev C57 := @Tryz.call57
abbrev C58 := @Tryz.call58
abbrev C59 := @Tryz.call59
abbrev C60 := @Tryz.call60
abbrev C61 := @Tryz.call61
abbrev C66 := @Tryz.call66
abbrev C68 := @Tryz.call68
abbrev C69 := @Tryz.call69
abbrev C71 := @Tryz.call71
abbrev C72 := @Tryz.call72
abbrev C73 := @Tryz.call73
abbrev C74 := @Tryz.call74
abbrev C75 := @Tryz.call75
abbrev C76 := @Tryz.call76
abbrev C77 := @Tryz.call77
abbrev C78 := @Tryz.call78
abbrev C79 := @Tryz.call79
abbrev C80 := @Tryz.call80
abbrev C81 := @Tryz.call81
abbrev C82 := @Tryz.call82
abbrev C83 := @Tryz.call83
abbrev C84 := @Tryz.call84
abbrev C85 := @Tryz.call85
abbrev C86 := @Tryz.call86
abbrev C87 := @Tryz.call87
abbrev C88 := @Tryz.call88
abbrev C89 := @Tryz.call89
abbrev C90 := @Tryz.call90
abbrev C91 := @Tryz.call91
abbrev C92 := @Tryz.call92
abbrev C97 := @Tryz.call97
abbrev C98 := @Tryz.call98
abbrev C99 := @Tryz.call99
abbrev G109 := @Tryz.isAgg109
abbrev G113 := @Tryz.isAgg113
abbrev G115 := @Tryz.isAgg115
abbrev G117 := @Tryz.isAgg117
abbrev G123 := @Tryz.isAgg123
abbrev G134 := @Tryz.isAgg134
abbrev G146 := @Tryz.isAgg146
abbrev G149 := @Tryz.isAgg149
abbrev G156 := @Tryz.isAgg156
abbrev G162 := @Tryz.isAgg162
abbrev G171 := @Tryz.isAgg171
abbrev G180 := @Tryz.isAgg180
abbrev G182 := @Tryz.isAgg182
abbrev G22 := @Tryz.isAgg22
abbrev G23 := @Tryz.isAgg23
abbrev G24 := @Tryz.isAgg24
abbrev G26 := @Tryz.isAgg26
abbrev G3 := @Tryz.isAgg3
abbrev G31 := @Tryz.isAgg31
abbrev G34 := @Tryz.isAgg34
abbrev G36 := @Tryz.isAgg36
abbrev G38 := @Tryz.isAgg38
abbrev G48 := @Tryz.isAgg48
abbrev G5 := @Tryz.isAgg5
abbrev G54 := @Tryz.isAgg54
abbrev G56 := @Tryz.isAgg56
abbrev G58 := @Tryz.isAgg58
abbrev G59 := @Tryz.isAgg59
abbrev G63 := @Tryz.isAgg63
abbrev G64 := @Tryz.isAgg64
abbrev G79 := @Tryz.isAgg79
abbrev G86 := @Tryz.isAgg86
abbrev G9 := @Tryz.isAgg9
abbrev Z109 := @Tryz.sizeOf109
abbrev Z112 := @Tryz.sizeOf112
abbrev Z113 := @Tryz.sizeOf113
abbrev Z115 := @Tryz.sizeOf115
abbrev Z117 := @Tryz.sizeOf117
abbrev Z123 := @Tryz.sizeOf123
abbrev Z180 := @Tryz.sizeOf180
abbrev Z182 := @Tryz.sizeOf182
abbrev Z22 := @Tryz.sizeOf22
abbrev Z23 := @Tryz.sizeOf23
abbrev Z24 := @Tryz.sizeOf24
abbrev Z26 := @Tryz.sizeOf26
abbrev Z3 := @Tryz.sizeOf3
abbrev Z31 := @Tryz.sizeOf31
abbrev Z34 := @Tryz.sizeOf34
abbrev Z36 := @Tryz.sizeOf36
abbrev Z38 := @Tryz.sizeOf38
abbrev Z48 := @Tryz.sizeOf48
abbrev Z5 := @Tryz.sizeOf5
abbrev Z54 := @Tryz.sizeOf54
abbrev Z56 := @Tryz.sizeOf56
abbrev Z58 := @Tryz.sizeOf58
abbrev Z59 := @Tryz.sizeOf59
abbrev Z63 := @Tryz.sizeOf63
abbrev Z64 := @Tryz.sizeOf64
abbrev Z79 := @Tryz.sizeOf79
abbrev Z86 := @Tryz.sizeOf86
abbrev Z9 := @Tryz.sizeOf9
abbrev U109 := @Tryz.underlying109
abbrev U112 := @Tryz.underlying112
abbrev U113 := @Tryz.underlying113
abbrev U115 := @Tryz.underlying115
abbrev U117 := @Tryz.underlying117
abbrev U123 := @Tryz.underlying123
abbrev U124 := @Tryz.underlying124
abbrev U133 := @Tryz.underlying133
abbrev U151 := @Tryz.underlying151
abbrev U170 := @Tryz.underlying170
abbrev U174 := @Tryz.underlying174
abbrev U182 := @Tryz.underlying182
abbrev U183 := @Tryz.underlying183
abbrev U22 := @Tryz.underlying22
abbrev U23 := @Tryz.underlying23
abbrev U24 := @Tryz.underlying24
abbrev U26 := @Tryz.underlying26
abbrev U27 := @Tryz.underlying27
abbrev U3 := @Tryz.underlying3
abbrev U34 := @Tryz.underlying34
abbrev U36 := @Tryz.underlying36
abbrev U38 := @Tryz.underlying38
abbrev U44 := @Tryz.underlying44
abbrev U48 := @Tryz.underlying48
abbrev U49 := @Tryz.underlying49
abbrev U5 := @Tryz.underlying5
abbrev U54 := @Tryz.underlying54
abbrev U56 := @Tryz.underlying56
abbrev U58 := @Tryz.underlying58
abbrev U59 := @Tryz.underlying59
abbrev U63 := @Tryz.underlying63
abbrev U64 := @Tryz.underlying64
abbrev U79 := @Tryz.underlying79
abbrev U86 := @Tryz.underlying86
abbrev U9 := @Tryz.underlying9
end T4
